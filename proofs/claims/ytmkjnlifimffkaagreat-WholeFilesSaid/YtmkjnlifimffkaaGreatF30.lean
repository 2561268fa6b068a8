/- Lemmas. -/
import Derived.Test.YtmkjnlifimffkaaGreatF29
import Derived.Laws.BitsLemmas
namespace Go.Proofs.YtmkjnlifimffkaaGreat
open Go.RowKit Tryz
set_option linter.all false
set_option maxRecDepth 100000
set_option maxHeartbeats 0
variable{p u w':World}{A B K:Option Addr}{c d g j m:Nat}{ps qs:List (Int×Int)}{E:Int}
def Lr(N:aU)(ps:List (Int×Int)):Int:=if hB N=0 then(fF (cX N 1073741824) (kB N.nodes.length) ps).1 else hB N
def Ls(N:aU)(ps:List (Int×Int)):Int:=if Lr N ps=0 then(fF (cX N 1073741824) (kB N.nodes.length) ps).2.iU else 0
section
variable{w:World}{n k:Nat}{N:aU}{V:Int}
def GW[a:aQ w A n B m N](hf:Hx N.fits)(hs:Hx N.small)[i:Is w K k ps](hk:k<=65536)(HE:Hx (Lr N ps=E))(HV:Hx (Ls N ps=V)):
  () 195 #[.agg #[(A,n,c),(B,m,d)],(K,k,g)] w (aD w (.tuple #[V,E])):=by
 obtain⟨CB,CP,FB⟩:=ha;have HM:Hx (m=N.nodes):=a.len;have hE:=HE.o;have hV:=HV.o;rw[Ls,hE]at hV;rw[Lr]at hE;by_cases c1:hB N=0;rotate_left
 .rw[ag c1]at hE;have D:=ae hE;have h0:E≠0:=by rw[<-hE];exact c1
  have b0:(E !=0)=true:=by simp[h0]
  rw[ag h0]at hV;subst hV;clear hE c1
  go_in
  go_upto_region 1 with fail
  refine aw (λu0 _ kn=>?_)
  go_wp2_with (go_at_call 34;refine mv (yD hf hs D h0 1073741824) λu1 _=>?_)
  go_ret2;exact bq
 rw[ah c1]at hE;have D:=ae c1;obtain⟨O,L,l,P,Q,R,-⟩:=look_ok (lm c1);obtain⟨o1,o2,o3,o4⟩:=sX c1 P Q;obtain⟨C,S⟩:=lh (cX N 1073741824);have y:C.cap=1073741824:=by rw[<-S];rfl
 have T:C.words=m+1:=by rw[<-S,HM.o];exact o2
 rw[S,<-HM.o]at hE hV;obtain⟨s0,r⟩:=lh (kB m);have z:yE s0 0:=by rw[<-r];exact Lb
 rw[r]at hE hV;have HC:=ae S;have pJ:=ae r;have U:=ae y;have HWL:Hx (C.words=m+1):=T;have DD:Hx (k=ps):=i.len;have F:=ae hE;have G:=ae hV;have X:=ae z;clear P Q R o1 o2 o3 o4 c1 r y T S HE HV hE hV z
 go_in
 go_upto_region 1 with fail
 refine aw (λu0 _ kn=>?_)
 go_upto_region 2 with(go_at_call 34;refine(K9 hf hs D 1073741824).mono ?_;rintro e u1 ⟨p,a,ss,rfl,pp,Z,b,VK⟩)
 rw[HC.o]at Z b;rw[pJ.o]at b;have pu:aj u1 p:=b.o.prev
 go_wp2_with fail
 go_loopw [21] (λt wr=>∃(j:Nat) (s:iv),j<=k/\t=.int .i64 j/\Hx (dI p wr a m C s)/\Hx (yE s j)/\Hx (fF C s (ps.drop j)=fF C s0 ps)) (λt _=>k-(intOf t).toNat)
 .exact⟨0,s0,aT _,rfl,b,X,ae rfl⟩
 ·
  clear b X pu;obtain⟨j,s,hj,rfl,b,HB,HG⟩:=hrel;have pw:aj wr p:=b.o.prev;by_cases bK:j<k
  .obtain⟨b1,o1,kd,id,rfl,q6,v1,v2,e1⟩:=i.get bK;have Y:ps.drop j=(kd,id)::ps.drop (j+1):=by
    obtain⟨h1,h2⟩:=a5.1 e1.o;rw[ei h1,h2]
   obtain⟨de,I⟩:=lh (j3 C s kd id);have hg:=HG.o;rw[Y,fF,I]at hg;have J:=ae I;have M:Hx (-144115188075855872<=s.now/\s.now<=144115188075855872/\0<=s.done/\s.done<=1000000):=ae (by obtain⟨x1,x2,x3,x4⟩:=HB.o;omega);clear I Y;by_cases d0:de=0
   .subst d0;rw[ah rfl]at hg;have mZ:=ae hg;have xh:=ae (yF Z HB J (by rw[U.o];decide));obtain⟨q1,q2,q3,q4⟩:=qg J;have HQ1:=ae q1;have Rs:Hx (id<=(m:Int)):=ae (by rw[HWL.o]at q2;omega);have Rt:=ae q3;have HQ4:=ae q4;clear hg q1 q2 q3 q4
    go_wp2_with (go_at_call 35;refine mv (yw Z b.o.at HQ1 Rs Rt M.o.2.2.1 M.o.2.2.2 M.o.1 M.o.2.1 HQ4 (by rw[U.o];decide)) λu5 rv=>?_)
    go_roundw
    .exact⟨j+1,_,om,by go_num,ae rv,xh,mZ⟩
    .simp[intOf];omega
   .rw[ag d0]at hg;have hE:=F.o;have hV:=G.o;rw[<-hg]at hE;subst hE;rw[ag d0]at hV;subst hV;have b0:(de !=0)=true:=by simp[d0]
    have HD0:=ae d0;clear hg d0
    go_wp2_with (go_at_call 35;refine mv (Bp Z b.o.at J HD0 M.o.2.2.1 M.o.1 M.o.2.1) λu5 _=>?_)
    go_ret2;exact bq
  .obtain rfl:j=k:=om;have hg:=HG.o;rw[DD.o,rO,fF]at hg;have hE:=F.o;have hV:=G.o;rw[<-hg]at hE hV;dsimp only at hE hV;subst hE;rw[ah rfl]at hV;subst hV;clear hg F G
   go_wp2_with (go_at_call 234;refine mv (Rv b) λu5 _=>?_)
   go_ret2;exact bq
end
variable{AK:Option Addr}{R:Nat}{ks:List Int}
structure OC where
 A:Option Addr
 n:Nat
 c:Nat
 B:Option Addr
 d:Nat
 AW:Option Addr
 cW:Nat
structure qx(p w:World)(g:Nat)(a:OC)(m:Nat)(W:List Int)(AK:Option Addr)(cK:Nat)(ks:List Int):Prop where
 prev:aj w p
 bx:aB w g 240 #[.slice a.A a.n a.c,.slice a.B m a.d,.slice a.AW (m+1) a.cW,.slice AK ks cK]
 wd:az w p.1.size 3 a.AW a.cW W
 kp:az w p.1.size 3 AK cK ks
 wl:W=m+1
 hg:p<=g
 ne:∀x y,a.AW=some x->AK=some y->x.block≠y.block
section
variable{w:World}{n k:Nat}{N:aU}{W C:List Int}{T:Int}{a:OC}
def qx.at(h:qx p w g a m W AK R ks)[l:aF w w']:qx p w' g a m W AK R ks:=⟨⟨dW h.prev.st l.st⟩,h.bx.at,h.wd.at,h.kp.at,h.wl,h.hg,h.ne⟩
def qx.facts(h:qx p w g a m W AK R ks):aj w p/\Bx w g 240 #[.slice a.A a.n a.c,.slice a.B m a.d,.slice a.AW (m+1) a.cW,.slice AK ks R]/\Sl w a.AW (m+1) W/\Sl w AK ks ks:=
 ⟨h.prev,⟨h.bx⟩,⟨h.wd.rd,h.wl.symm⟩,⟨h.kp.rd,rfl⟩⟩
def aaj(w:ay)(A B:cD)(n m c d:Nat)(W ks:av)(e:Ending)(w':ay):Prop:=
 ∃g AW cW AK R,e=.returned (.tuple #[.pointer (some ⟨g,0,none⟩),au])/\Hx (qx w w' g ⟨A,n,c,B,d,AW,cW⟩ m W AK R ks)
def D3[aQ w A n B m N](F:Hx N.fits)(hs:Hx N.small)(l:Hx (a6 N=0))(b:Hx (hB N=E))(r:E≠0):() 143 #[.agg #[(A,n,c),(B,m,d)]] w (aD w (.tuple #[.pointer none,E])):=by
 have G:=@aa;have I:=@aP;have y:=l;have z:Hx (it N=([],[],0)):=ae (by rw[it,b.o,ag r]);have j:Hx (([]:av).length=0):=rfl;have D:=j;have J:(E !=0)=true:=by simp[r]
 clear r
 go_in
 go_upto_region 1 with fail
 refine aw (λK _ L=>?_)
 go_upto_region 5 with(first|(go_at_call 9;(with_reducible refine(oc F hs b z j D).mono ?_);rintro e u ⟨AW,cW,AC,cC,rfl,M,O,P,Q,S⟩)|(go_at_call 40;(with_reducible refine(f0 F hs y).mono ?_);rintro e u ⟨rfl,_⟩))
 refine aw (λU _ kp=>?_)
 go_wp2_with fail
 go_ret2;exact bq
def OD[a:aQ w A n B m N](X:Hx N.fits)(hs:Hx N.small)(b:Hx (hB N=0))(z:Hx (it N=(W,C,T))):() 143 #[.agg #[(A,n,c),(B,m,d)]] w (aaj w A B n m c d W N.ids):=by
 have CB:=@aa;have FB:=@aP;have Y:Hx (m=N.nodes):=a.len;have P:=ae (lm b);obtain⟨O,L,l,D,F,G,-⟩:=look_ok (lm b);obtain⟨o1,Q,S,o4⟩:=sX b D F;rw[z.o]at o1 Q S;have I:Hx (W=m+1):=ae (by rw[Y.o];exact Q);have U:Hx (C=m+1):=ae (by rw[Y.o];exact S);clear o1 Q S o4 D F G
 go_in
 go_upto_region 1 with fail
 refine aw (λu0 _ kn=>?_)
 go_upto_region 5 with(first|(go_at_call 9;(with_reducible refine(oc X hs b z I U).mono ?_);rintro e u ⟨AW,cW,AC,cC,rfl,sW,sC,Z,oC,pP⟩)|(go_at_call 40;(with_reducible refine(f0 X hs P).mono ?_);rintro e u ⟨rfl,_⟩))
 refine aw (λJ _ kp=>?_)
 go_upto_region 7 with fail
 refine aH J aq (λr _=>?_);refine qL [0,1,2,3] ?_;refine aM 4 λK hK=>?_;obtain⟨uk,rfl⟩:=lg r;go_simp
 (with_reducible refine(K8 hs).mono ?_)
 rintro e r ⟨AK,R,rfl,oK,pK⟩;dsimp only;refine aL hK ?_;refine ap 5 ?_;refine aM 6 λK hK=>?_;go_simp;obtain⟨gS,j⟩:=lh ((World.heap r).size);have V:(World.heap J).size<=gS:=by rw[<-j];exact ai
 refine aL hK ?_;refine bh (λr _ M=>?_);rw[j]at M⊢;clear j;refine qL [7,8] ?_;refine aZ ?_
 go_wp2_with fail
 go_ret2;exact⟨gS,AW,cW,AK,R,rfl,ae ⟨aK,M.al,(Z.at (w':=r)).more ai,(oK.at (w':=r)).more (ai (w:=w)),I,aO (ai (w:=w) (w':=J)) V,λx y hx hy=>by have h1:=Z.row.lt x hx;have h2:=oK.fresh y hy;have h3:=aO (ai (w:=u) (w':=J)) (ai (w:=J) (w':=uk));omega⟩⟩
def D4(N:aU)(ks:av):Int:=if kc N ks=0 then Lr N (kg N ks)else kc N ks
def JB(N:aU)(ks:av):List (Int×Int):=if D4 N ks=0 then kg N ks else[]
def SY(N:aU)(ks:av):Int:=if D4 N ks=0 then Ls N (kg N ks)else 0
def aak(w:ay)(V:List (Int×Int))(T E:Int)(e:Ending)(w':ay):Prop:=
 ∃A c,e=.returned (.tuple #[.slice A V c,T,E])/\bM w' w.1.size A c V/\aj w' w
def s3[aQ p a.A a.n a.B m N](P:Hx N.fits)(hs:Hx N.small)(h:qx p w g a m W AK R ks)(X:ks.length<=1000000){V:List (Int×Int)}(Y:Hx (D4 N ks=E))(Z:Hx (JB N ks=V))(HT:Hx (SY N ks=T)):
  () 144 #[.pointer g] w (aak w V T E):=by
 have CB:=@aa;obtain⟨p9,kb,sw,sk⟩:=h.facts;have hE:=Y.o;have j:=Z.o;have b:=HT.o;rw[JB,hE]at j;rw[SY,hE]at b;rw[D4]at hE;obtain⟨le,l⟩:=lh (kc N ks);obtain⟨L,z⟩:=lh (kg N ks);obtain⟨y,Q⟩:=lh L.length;have D:y<=65536:=by rw[<-Q,<-z];exact ub
 obtain⟨kn,F⟩:=lh ks.length;rw[F]at kb sk X;have S:=ae l;have U:=ae z;have G:=ae Q;rw[l,z]at hE;rw[z]at j b;clear l z Q F Y Z HT h
 go_in
 go_upto_region 1 with fail
 refine aH w aq (λux _=>?_);refine qL [0,1,2,3,4,5,6,7] ?_;refine aM 8 λK hK=>?_;go_simp
 (with_reducible refine(rD P hs X S U G).mono ?_)
 rintro e ux ⟨AC,cC,rfl,iC,oC,pC⟩;dsimp only;refine aL hK ?_;refine qL [9,10,11,12,13] ?_;refine aZ ?_;by_cases I:le=0
 .subst I;rw[ah rfl]at hE;have J:=ae hE;obtain⟨pv,r⟩:=lh (Ls N L);rw[r]at b;have M:=ae r;clear hE r;by_cases O:E=0
  .subst O;rw[ah rfl]at j b;subst j b
   go_wp2_with (go_at_call 195;refine mv (GW P hs D J M) λu5 _=>?_)
   go_ret3
   exact⟨AC,cC,by rw[G.o];rfl,(show aI _ _ 98 2 _ _ _ _ from oC).at.less (ai (w:=w)),aK⟩
  .rw[ag O]at j b;subst j b;have b0:(E !=0)=true:=by simp[O]
   clear O
   go_wp2_with (go_at_call 195;refine mv (GW P hs D J M) λu5 _=>?_)
   go_ret3
   exact⟨none,0,rfl,bM.nil _ _,aK⟩
 .rw[ag I]at hE;subst hE;rw[ag I]at j b;subst j b;have b0:(le !=0)=true:=by simp[I]
  clear I
  go_wp2_with fail
  go_ret3
  exact⟨none,0,rfl,bM.nil _ _,aK⟩
end
section
variable{i l off:Nat}{O:List Int}{ops:Array Oper}{a:Act}{Q:Exit->Act->World->Prop}{C:Option Addr}
section
variable{w:World}{B k:Nat}
def D5(b:k<=l)(e:l<=c):∃off,(∀w,(Instr.slice 24 (.slice g l c) (some (.int .i64 (k:Int))) none none).run prog w=.ok (.slice (some ⟨g,off,none⟩) (l-k) (c-k)) w)/\(k<l->off=k):=by
 by_cases h:c=k
 .refine⟨0,λw=>?_,λj=>om⟩;rw[dk w 24 (some ⟨g,0,none⟩) l c aq .i64 k om om,gO aq];simp[Result.andThen,sliced,h]
 .refine⟨k,λw=>?_,λ_=>rfl⟩;rw[dk w 24 (some ⟨g,0,none⟩) l c aq .i64 k om om,gO aq];simp[Result.andThen,sliced,h,Addr.add];exact λh=>h.symm
def JC(b:k<=l)(e:l<=c)(w:World):(Instr.slice 24 (.slice g l c) none (some (.int .i64 (k:Int))) none).run prog w=.ok (.slice g k c) w:=by
 rw[kr w 24 (some ⟨g,0,none⟩) l c aq .i64 k om om,gO aq];simp[Result.andThen,sliced,Addr.add]
def D6(h:az w B 3 (some ⟨g,0,none⟩) c ks)(hi:i<ks.length)(I:TypeId)(L:i+1<ks.length->off=i+1):
  ∃w',(Builtin.append_ #[24,24] I #[.slice g i c,.slice (some ⟨g,off,none⟩) (ks.length-(i+1)) (c-(i+1))]).run prog w=.ok (.slice g (ks.length-1) c) w'/\
   az w' B 3 (some ⟨g,0,none⟩) c (ks.take i++ks.drop (i+1))/\Below B w w'/\w'.heap.size=w.heap.size/\∀b,b≠g->w'.heap[b]?=w.heap[b]?:=by
 rcases h.form with⟨E,_,_⟩|⟨S,m,e,M,hg,T,hm,N,ht⟩
 .cases E
 injection e with e;injection e with O U;subst O
 obtain⟨J,F,r⟩:=bD.1 (show(prog.info? 3).map (λi=>(i.zero,i.size,i.bytes))=some (some (.int .i64 0),1,8)from by kernel_rfl);simp only[dL]at r;obtain⟨D,hs,hb⟩:=r;have y:((ks.drop (i+1)).map (Value.int .i64)).length=(ks.length-(i+1))*J.size:=by rw[hs];simp
 have R:=run_append_room (P:=prog) w 24 I 3 J underlying24 F g i c m hg ⟨g,off,none⟩ (ks.length-(i+1)) (c-(i+1)) ((ks.drop (i+1)).map (Value.int .i64)) y (λj u K=>by
  rw[bj]at K;obtain⟨z,D,rfl⟩:=bD.1 K;rw[ff]at D;have Q:=(a5.1 D).1;rw[L om];rw[show(Addr.add ⟨g,i+1,none⟩ j)=⟨g,i+1+j,none⟩from by by_cases E:j=0<;>simp[Addr.add,E]];exact h.cell D) (λu hu=>by obtain⟨z,_,rfl⟩:=bC.1 hu;rfl) om (by rw[y,hs,N];omega)
 have C:(ks.take i++ks.drop (i+1)).length=ks.length-1:=by simp;omega
 rw[show i+(ks.length-(i+1))=ks.length-1 by omega]at R;rw[hs,eG]at R;refine⟨_,R,⟨aG,.inr ⟨g,c,(m.toList.take i++(ks.drop (i+1)).map (Value.int .i64)++m.toList.drop (i+((ks.drop (i+1)).map (Value.int .i64)).length)).toArray,rfl,M,?_,?_,hm,?_,?_⟩⟩,⟨rfl,rfl,rfl,?_,λb hb=>?_⟩,?_,λb hb=>?_⟩
 .rw[World.setRow,qO,ah rfl,hg];rfl
 .rw[C];omega
 .simp;omega
 .have G:m.toList.take i=(ks.take i).map (Value.int .i64):=by
   rw[jw,<-ht,ez,dt om]
  rw[G,<-cJ];rw[e9 aG]
 .simp[World.setRow]
 .rw[World.setRow,qO,ag om]
 .simp[World.setRow]
 .rw[World.setRow,qO,ag (dF hb)]
def At{o:Oper}{K:Act->World->Prop}(m:Region.wanted o (yielded ops a.tmps)=true)(s x:Operand)
  (r:o.op=.call {callee:=.builtin .append,args:= #[s,x],argTypes:= #[24,24]}) 
  (hs:a.eval s=.slice g i c) (u:a.eval x=.slice (some ⟨g,off,none⟩) (ks.length-(i+1)) (c-(i+1)))
  (e:az w B 3 (some ⟨g,0,none⟩) c ks) (hi:i<ks.length) (j:i+1<ks.length->off=i+1)
  (h:∀w',az w' B 3 (some ⟨g,0,none⟩) c (ks.take i++ks.drop (i+1))->Below B w w'->(∀b,b≠g->w'.heap[b]?=w.heap[b]?)->K (a.put o.dst (.slice g (ks.length-1) c)) w'):
  if Region.wanted o (yielded ops a.tmps)=true then Oper.wp prog o a w K Q else K (a.put o.dst undef) w:=by
 rw[ah m];obtain⟨w',hr,y,z,D,C⟩:=D6 e hi o.type j;unfold Oper.wp execOp;simp only[r,resolve,invoke,builtin,rQ,B5,rK,B1,dX,jZ,hs,u,hr];exact h w' y z C
def qx.cut{a:OC}{gk:Nat}{W:List Int}(h:qx p w g a m W (some ⟨gk,0,none⟩) j ks)(C:az w' p.heap.size 3 (some ⟨gk,0,none⟩) j O)(hb:Below p w w')(u:∀b,b≠gk->w'.heap[b]?=w.heap[b]?):
  qx p (w'.setCell ⟨g,3,none⟩ (.slice gk O j)) g a m W (some ⟨gk,0,none⟩) j O:=by
 have r:gk≠g:=h.kp.aS h.bx ak ⟨gk,0,none⟩ rfl;have y:aB w' g 240 #[.slice a.A a.n a.c,.slice a.B m a.d,.slice a.AW (m+1) a.cW,.slice gk ks j]:=(u g (dF r)).trans h.bx;have D:az w' p.heap.size 3 a.AW a.cW W:=by
  refine h.wd.row.same (λE e=>u _ ?_);exact h.ne E ⟨gk,0,none⟩ e rfl
 have f:∀{A:Option Addr} {c:Nat} {zs:List Int},az w' p.heap.size 3 A c zs->az (w'.setCell ⟨g,3,none⟩ (.slice gk O j)) p.heap.size 3 A c zs:=λz=>z.ec (p:=⟨g,3,none⟩) (z.aS y ak) _;exact⟨⟨(h.prev.st.trans hb).setCell (p:=⟨g,3,none⟩) h.hg _⟩,y.ax 3 _,f D,f C,h.wl,h.hg,h.ne⟩
def y9(W ks:List Int):Nat->Nat
 |0=>0
 |i+1=>if W.getD (ks.getD (y9 W ks i) 0).toNat 0<W.getD (ks.getD i 0).toNat 0 then i else y9 W ks i
def j4(W ks:List Int):List Int:=ks.take (y9 W ks ks.length)++ks.drop (y9 W ks ks.length+1)
def D7(W ks:List Int):∀i,y9 W ks i<=i-1
 |0=>an _
 |i+1=>by
  have:=D7 W ks i;unfold y9
  split<;>omega
def JD(W ks:List Int)(h:0<ks.length):(j4 W ks).length=ks.length-1:=by
 have:=D7 W ks ks.length;simp[j4];omega
def JE{P:Int->Prop}{W ks:List Int}(h:∀z∈ks,P z):∀z∈j4 W ks,P z:=λz hz=>by
 rcases bJ.1 hz with hz|hz
 .exact h z (cG hz)
 .exact h z (dC hz)
def GY{a:OC}{W:List Int}(h:qx p w g a m W C j []):() 145 #[.pointer g] w (aD w (.bool false)):=by
 have e:=@aa;obtain⟨r,b,u,y⟩:=h.facts;dsimp only[List.length_nil]at b;go_enter func145,ntmps145
 go_wp2_with fail
 go_ret;exact⟨rfl,ab _ _⟩
def SZ{a:OC}{n:Nat}{W:List Int}(h:qx p w g a m W C j ks)(hR:Hx (∀z∈ks,1<=z/\z<=m))(T:ks.length=n)(h0:0<n)(hm:n<=1000):
  () 145 #[.pointer g] w λe w'=>e=.returned (.bool true)/\Hx (qx p w' g a m W C j (j4 W ks)):=by
 obtain⟨CB,CP,FB⟩:=ha;obtain⟨gk,rfl,hgB,-⟩:=h.kp.addr om;obtain⟨bW,qW,zW,G,-⟩:=(h.facts.2.2.1).get (show 0<m+1 by omega);obtain⟨aA,an,ac,aB,ad,aAW,aCW⟩:=a;dsimp only at G;subst G;obtain⟨p9,kb,sw,sk⟩:=h.facts;dsimp only at kb sw;rw[T]at kb sk;have r:=ae T;have I:=ae h;have b0:((n:Int)==0)=false:=by simp;omega
 clear h T;go_enter func145,ntmps145
 go_wp2_with fail
 go_loopw [3,17] (λt x wr=>∃(i q:Nat),i<=n/\t=.int .i64 q/\x=.int .i64 i/\Hx (y9 W ks i=q)/\aj wr w) (λ_ x _=>n-(intOf x).toNat)
 case atStart=>exact⟨0,0,aT _,rfl,rfl,ae rfl,ab _ _⟩
 case round=>
  obtain⟨i,q,hi,rfl,rfl,U,hp⟩:=hrel;have hq:=D7 W ks i;rw[U.o]at hq;by_cases V:i<n
  .obtain⟨x,O⟩:∃x,ks[i]?=some x:=⟨_,bc (by rw[r.o];exact V)⟩;obtain⟨z,P⟩:∃x,ks[q]?=some x:=⟨_,bc (by rw[r.o];omega)⟩;obtain⟨x1,x2⟩:=hR.o x (aC O);obtain⟨z1,z2⟩:=hR.o z (aC P);obtain⟨y,rfl⟩:=cf (show 0<=x by omega);obtain⟨v,rfl⟩:=cf (show 0<=z by omega);have cx:=(I.o.kp.at (w':=wr)).cell O;have cz:=(I.o.kp.at (w':=wr)).cell P;obtain⟨b5,o5,Q,u,ob5,cy,ey⟩:=(show Sl wr (some ⟨bW,qW,none⟩) (m+1) W from ao).get (show y<m+1 by omega);injection u with u;injection u with X Y;subst X Y
   obtain⟨b5,o5,R,u,-,cv,ev⟩:=(show Sl wr (some ⟨bW,qW,none⟩) (m+1) W from ao).get (show v<m+1 by omega);injection u with u;injection u with X Y;subst X Y
   have og:Old gk wr:=⟨(I.o.kp.at (w':=wr)).row.lt _ rfl⟩;have i1:(q:Int)<(n:Int):=by omega
   have i2:(y:Int)<(m:Int)+1:=by omega
   have i3:(v:Int)<(m:Int)+1:=by omega
   have b:Hx (y9 W ks (i+1)=if R<Q then i else q):=ae (by
    rw[y9,U.o,aX,aX,aX,aX,O,P];simp only[pZ,bI,ey.o,ev.o])
   clear O P hq;by_cases S:R<Q
   .have d1:decide (R<Q)=true:=by simpa using S
    have D:Hx (y9 W ks (i+1)=i):=ae (by rw[b.o,ah S]);clear b
    go_upto_region 7 with fail
    refine am aq (λZ _=>?_);refine ap 0 ?_;refine ap 1 ?_;refine ap 2 ?_;refine ap 3 ?_;refine ap 4 ?_;refine ap 5 ?_;refine ap 6 ?_;refine ap 7 ?_;refine ap 8 ?_;refine ap 9 ?_;refine ap 10 ?_;refine ap 11 ?_;refine ap 12 ?_;refine ap 13 ?_;refine ap 14 ?_;refine ap 15 ?_;refine ap 16 ?_;refine ap 17 ?_;refine ap 18 ?_;refine ap 19 ?_;refine ap 20 ?_;refine aZ ?_
    go_wp2_with fail
    go_roundw
    case rel=>exact⟨i+1,i,om,rfl,by go_num,D,ab _ _⟩
    case measure=>exact e6
   .have d1:decide (R<Q)=false:=by simpa using S
    have D:Hx (y9 W ks (i+1)=q):=ae (by rw[b.o,ag S]);clear b
    go_upto_region 7 with fail
    refine am aq (λZ _=>?_);refine ap 0 ?_;refine ap 1 ?_;refine ap 2 ?_;refine ap 3 ?_;refine ap 4 ?_;refine ap 5 ?_;refine ap 6 ?_;refine ap 7 ?_;refine ap 8 ?_;refine ap 9 ?_;refine ap 10 ?_;refine ap 11 ?_;refine ap 12 ?_;refine ap 13 ?_;refine ap 14 ?_;refine ap 15 ?_;refine ap 16 ?_;refine ap 17 ?_;refine ap 18 ?_;refine ap 19 ?_;refine ap 20 ?_;refine aZ ?_
    go_wp2_with fail
    go_roundw
    case rel=>exact⟨i+1,q,om,rfl,by go_num,D,ab _ _⟩
    case measure=>exact e6
  .obtain rfl:i=n:=om;have hqn:q<i:=om;have J:i<=j:=by have:=I.o.kp.gW;rw[r.o]at this;exact this
   have xb:=λW=>JC (g:=gk) (c:=j) (show q<=i by omega) J W;obtain⟨off,L,hof⟩:=D5 (g:=gk) (c:=j) (show q+1<=i by omega) J;have L:∀W:World,(Instr.slice 24 (.slice gk i j) (some (.int .i64 ((q:Int)+1))) none none).run prog W=.ok (.slice (some ⟨gk,off,none⟩) (i-(q+1)) (j-(q+1))) W:=λW=>by have:=L W;rwa[fH]at this
   have kw:IntKind.i64.wrap ((q:Int)+1)=(q:Int)+1:=by rw[aV];omega
   have S0:Hx ((ks.take q++ks.drop (q+1)).length=ks.length-1):=ae (by have:=r.o;simp;omega);have Sq:Hx (j4 W ks=ks.take q++ks.drop (q+1)):=ae (by rw[j4,r.o,U.o])
   go_upto_region 10 with fail
   refine aH p aq (λZ _=>?_);refine ap 0 ?_;refine ap 1 ?_;refine ap 2 ?_;refine ap 3 ?_;refine ap 5 ?_;refine ap 7 ?_;refine ap 8 ?_;refine ap 9 ?_;refine ap 11 ?_;refine ap 12 ?_;refine o7 4 10 (λK hK=>?_) (λK hK=>?_)
   focus
    go_simp;refine aL hK ?_;clear hK K;refine ap 6 ?_;refine aM 10 λK hK=>?_;go_simp;refine aL hK ?_;clear hK K;refine ap 13 ?_
   rotate_left
   focus
    go_simp;refine aL hK ?_;clear hK K;refine ap 13 ?_;refine aM 4 λK hK=>?_;go_simp;refine aL hK ?_;clear hK K;refine ap 6 ?_
   all_goals
    refine aM 14 λK hK=>?_;have E:=I.o.at (w':=Z);have hkq:q<ks.length:=by rw[r.o];omega
    refine At aq _ _ rfl rfl (by rw[r.o];rfl) E.kp hkq (by rw[r.o];exact hof) ?_;intro w3 qm M N;have F:=E.cut qm M N;rw[S0.o]at F;have p3:aj w3 p:=⟨E.prev.st.trans M⟩;have NZ:Bx w3 g 240 _:=⟨(N g (dF (E.kp.aS E.bx ak ⟨gk,0,none⟩ rfl))).trans E.bx⟩;refine aL hK ?_ p3;clear hK K E;refine ap 15 ?_;refine ap 16 ?_;refine aM 17 λK hK=>?_;go_simp;refine aL hK ?_ F.prev;clear hK K;refine aZ ?_
    go_wp2_with fail
    go_ret;exact⟨rfl,by rw[Sq.o];exact ae F⟩
end
end
variable{cap:Int}
def qM(N:aU)(W:List Int)(cap:Int):Nat->List Int->Int×List (Int×Int)
 |0,ks=>if D4 N ks=0 then(if SY N ks<=cap then(0,JB N ks)else(26,[]))else(D4 N ks,[])
 |f+1,ks=>if D4 N ks=0 then(if SY N ks<=cap then(0,JB N ks)else qM N W cap f (j4 W ks))else(D4 N ks,[])
def BJ(N:aU)(cap:Int):Int:=if hB N=0 then(qM N (it N).1 cap N.ids.length N.ids).1 else hB N
def uV(N:aU)(cap:Int):List (Int×Int):=if hB N=0 then(qM N (it N).1 cap N.ids.length N.ids).2 else[]
def Wf(w:World)(V:List (Int×Int))(E:Int)(e:Ending)(w':World):Prop:=
 ∃K A c,e=.returned (.tuple #[K,.slice A V c,E])/\bM w' w A c V/\aj w' w
def S3(g:Nat)(w:World):Nat:=match w.cell? ⟨g,3,none⟩with|some (.slice _ n _)=>n|_=>0
section
variable{w:World}{n k:Nat}{N:aU}{W:List Int}{V:List (Int×Int)}{a:OC}
def qx.Xh(h:qx p w g a m W AK R ks):S3 g w=ks.length:=by
 rw[S3,h.bx.cell 3];rfl
def Wg[a:aQ w A n B m N](Q:Hx N.fits)(hs:Hx N.small)(Dv:Hx (a6 N=0))(HE:Hx (BJ N cap=E))(HV:Hx (uV N cap=V)):
  () 94 #[.agg #[.slice A n c,.slice B m d],cap] w (Wf w V E):=by
 have CB:=@aa;have HM:Hx (m=N.nodes.length):=ae a.len;have XN:m<=1000:=by rw[HM.o];exact hs.o.1
 have hE:=HE.o;have hV:=HV.o;rw[BJ]at hE;rw[uV]at hV;by_cases c1:hB N=0;rotate_left
 .rw[ag c1]at hE hV;have I:=ae hE;have h0:E≠0:=by rw[<-hE];exact c1
  have b0:(E !=0)=true:=by simp[h0]
  subst hV;clear hE c1;go_enter func94,ntmps94
  go_upto_region 1 with fail
  refine aw (λu0 _ kn=>?_)
  go_wp2_with (go_at_call 143;refine(D3 Q hs Dv I h0).mono ?_;rintro e u1 ⟨rfl,_⟩)
  go_ret3
  exact⟨_,none,0,rfl,bM.nil _ _,ab _ _⟩
 rw[ah c1]at hE hV;have I:=ae c1;obtain⟨⟨W,C,T⟩,J⟩:=lh (it N);rw[J]at hE hV;have HOV:=ae J;have S:Hx (qM N W cap N.ids.length N.ids=(E,V)):=ae (by rw[<-hE,<-hV]);have U:Hx (∀z∈N.ids,1<=z/\z<=m):=ae λz hz=>by have:=bn.1 hz;rw[<-HM.o]at this;exact this
 have b:Hx (N.ids.length<=m):=ae (by rw[HM.o];simp[aU.ids]);clear J hE hV c1 HE HV;go_enter func94,ntmps94
 go_upto_region 1 with fail
 refine aw (λu0 _ kn=>?_)
 go_wp2_with (go_at_call 143;refine(OD Q hs I HOV).mono ?_;rintro e u1 ⟨g,AW,cW,AK,R,rfl,j⟩;obtain⟨p1,VM,-,-⟩:=j.o.facts)
 go_loopw [] (λwr=>∃(ks:List Int) (AK:Option Addr) (R:Nat),Hx (qx u0 wr g ⟨A,n,c,B,d,AW,cW⟩ m W AK R ks)/\Hx (∀z∈ks,1<=z/\z<=m)/\Hx (qM N W cap ks.length ks=(E,V))/\Hx (ks.length<=m)) (λwr=>S3 g wr)
 case atStart=>exact⟨N.ids,AK,R,j,U,S,b⟩
 case round=>
  clear j U S b VM p1;obtain⟨ks,AK,R,j,U,S,b⟩:=hrel;obtain⟨p2,ty,-,sk2⟩:=j.o.facts;have l:ks.length<=1000000:=by have:=b.o;omega
  obtain⟨y,hy⟩:=lh ks.length;rw[hy]at ty;obtain⟨ge,K⟩:=lh (D4 N ks);obtain⟨gc,L⟩:=lh (JB N ks);obtain⟨gv,M⟩:=lh (SY N ks);obtain⟨cl,wW⟩:=lh gc.length;have r:=ae K;have D:=ae L;have F:=ae M;have X:=ae hy;have hF:=S.o;have Y:(if ge=0 then(if gv<=cap then((0:Int),gc)else(match ks.length with|0=>(26,[])|f+1=>qM N W cap f (j4 W ks)))else(ge,[]))=(E,V):=by
   rw[<-hF,<-K,<-M,<-L];cases ks.length<;>rfl
  have O:=ae Y;clear K L M wW hF Y hy;by_cases e0:ge=0
  .subst e0;have hF:=O.o;rw[ah rfl]at hF;by_cases Z:gv<=cap
   .have t1:decide (gv<=cap)=true:=by simpa using Z
    rw[ah Z]at hF;injection hF with f1 f2
    subst f1 f2
    go_wp2_with (go_at_call 144;refine(s3 (N:=N) Q hs j.o l r D F).mono ?_;rintro e u5 ⟨A5,c5,rfl,o5,p5⟩)
    go_ret3
    exact⟨_,A5,c5,rfl,(show aI _ _ 98 2 _ _ _ _ from o5).at.less (ai (w:=w)),ab _ _⟩
   .have t1:decide (gv<=cap)=false:=by simpa using Z
    rw[ag Z]at hF;have G:=ae hF;clear hF O S Z;by_cases y0:y=0
    .have HY:ks=[]:=jY (by rw[X.o];exact y0);subst HY;have hF:=G.o;injection hF with f1 f2
     subst f1 f2;clear G
     go_wp2_with (first|(go_at_call 144;refine(s3 (N:=N) Q hs j.o l r D F).mono ?_;rintro e u5 ⟨A5,c5,rfl,o5,p5⟩)|(go_at_call 145;refine(GY j.o.at).mono ?_;rintro e u6 ⟨rfl,_⟩))
     go_ret3
     exact⟨_,none,0,rfl,bM.nil _ _,ab _ _⟩
    .have P:(j4 W ks).length+1=ks.length:=by have:=JD W ks (by rw[X.o];omega);have:=X.o;omega
     have RE:Hx (qM N W cap (j4 W ks).length (j4 W ks)=(E,V)):=ae (by have:=G.o;rw[<-P]at this;exact this);have S0:=ae P;have HI3:Hx (∀z∈j4 W ks,1<=z/\z<=m):=ae (JE U.o);have hy9:y<=1000:=by have:=b.o;have:=X.o;omega
     clear P G
     go_wp2_with (first|(go_at_call 144;refine(s3 (N:=N) Q hs j.o l r D F).mono ?_;rintro e u5 ⟨A5,c5,rfl,o5,p5⟩)|(go_at_call 145;refine(SZ j.o.at U X.o om hy9).mono ?_;rintro e u6 ⟨rfl,Jp⟩))
     go_roundw
     case rel=>exact⟨_,AK,R,Jp,HI3,RE,ae (by have:=S0.o;have:=b.o;omega)⟩
     case measure=>rw[Jp.o.Xh,j.o.Xh];have:=S0.o;omega
  .have hF:=O.o;rw[ag e0]at hF;injection hF with f1 f2
   subst f1 f2;have b0:(ge !=0)=true:=by simp[e0]
   clear e0
   go_wp2_with (go_at_call 144;refine(s3 (N:=N) Q hs j.o l r D F).mono ?_;rintro e u5 ⟨A5,c5,rfl,o5,p5⟩)
   go_ret3
   exact⟨_,none,0,rfl,bM.nil _ _,ab _ _⟩
end
variable{cK:Nat}{pl:Int}
def gpE(N:aU)(pl cap:Int):Int:=if pl=1 then kc N N.ids else if pl=2 then kc N (jo N)else if pl=3 then BJ N cap else 11
def Wh(N:aU)(pl cap:Int):List (Int×Int):=if pl=1 then kg N N.ids else if pl=2 then kg N (jo N)else if pl=3 then uV N cap else[]
section
variable{w:World}{n k y:Nat}{N:aU}{W R:List Int}{V:List (Int×Int)}
def OE[aQ w A n B m N](j:Hx N.fits)(hs:Hx N.small)(b:Hx (a6 N=0))(hm:m<=12)(hr:Hx (jo N=R))(l:Hx (R.length=y)):
  () 93 #[.agg #[.slice A n c,.slice B m d]] w λe w'=>∃A c,e=.returned (.tuple #[.slice A y c,au])/\Sl w' A y R/\aj w' w:=by
 obtain rfl:=hr.o;obtain rfl:=l.o;exact(SX j hs b hm).mono λe w' ⟨A,c,r,z,C⟩=>⟨A,c,r,⟨z.rd,rfl⟩,C⟩
def S4[aQ w A n B m N](hs:Hx N.small)(b:Hx (N.ids.length=m)):() 12 #[.agg #[.slice A n c,.slice B m d]] w λe w'=>∃A c,e=.returned (.slice A m c)/\Sl w' A m N.ids/\aj w' w:=
 (K8 hs).mono λe w' ⟨A,c,j,l,r⟩=>⟨A,c,by rw[j,b.o],⟨l.rd,b.o.symm⟩,r⟩
def za[a:aQ w A n B m N](r:Hx N.fits)(hs:Hx N.small)(hm:m<=12)(hE:Hx (kc N N.ids=E))(hV:Hx (kg N N.ids=V)):
  () 50 #[.agg #[.slice A n c,.slice B m d],(1:Int),cap] w (iN w E V):=by
 have F:=@aa;have z:Hx (m=N.nodes.length):=ae a.len;have b:Hx (N.ids.length=m):=ae (by rw[z.o];simp[aU.ids]);obtain⟨y,j⟩:=lC V.length;go_enter func50,ntmps50
 go_upto_region 1 with fail
 refine aw (λC _ G=>?_)
 go_upto_region 3 with fail
 refine aH C aq (λl _=>?_);refine ap 0 ?_;refine ap 1 ?_;refine aM 2 λK hK=>?_;go_simp
 (with_reducible refine(S4 hs b).mono ?_)
 rintro e l ⟨AK,cK,rfl,I,_⟩;dsimp only;refine aL hK ?_;clear hK K;refine aM 3 λK hK=>?_;go_simp
 (with_reducible refine(rD r hs om hE hV j).mono ?_)
 rintro e l ⟨AC,cC,rfl,J,D,_⟩;dsimp only;refine aL hK ?_;clear hK K;refine ap 4 ?_;refine ap 5 ?_;refine ap 6 ?_;refine ap 7 ?_;refine aZ ?_
 go_wp2_with fail
 go_ret2;exact⟨AC,cC,by rw[j.o];rfl,(show aI _ _ 98 2 _ _ _ _ from D).at.less (ai (w:=w)),ab _ _⟩
def zb[a:aQ w A n B m N](F:Hx N.fits)(hs:Hx N.small)(b:Hx (a6 N=0))(hm:m<=12)(hE:Hx (kc N (jo N)=E))(hV:Hx (kg N (jo N)=V)):
  () 50 #[.agg #[.slice A n c,.slice B m d],(2:Int),cap] w (iN w E V):=by
 have T:=@aa;have K:Hx (m=N.nodes.length):=ae a.len;obtain⟨y,G⟩:=lh V.length;have I:=ae G;obtain⟨R,r⟩:=lh (jo N);obtain⟨z,C⟩:=lh R.length;have D:z<=1000000:=by
  obtain⟨O,L,l,M,j,J,-⟩:=look_ok b.o;have:(jo N).length<=12:=by rw[jo,j.ord];exact JA (by rw[j.sM,<-K.o];exact hm)
  rw[r,C]at this;omega
 have P:=ae r;have Q:=ae C;rw[r]at hE hV;clear G r C;go_enter func50,ntmps50
 go_upto_region 1 with fail
 refine aw (λU _ X=>?_)
 go_wp2_with (first|(go_at_call 93;refine(OE F hs b hm P Q).mono ?_;rintro e Y ⟨AK,cK,rfl,Z,_⟩)|(go_at_call 32;refine(rD F hs D hE hV I).mono ?_;rintro e u2 ⟨AC,cC,rfl,iC,S,_⟩))
 go_ret2;exact⟨AC,cC,by rw[I.o];rfl,(show aI _ _ 98 2 _ _ _ _ from S).at.less (ai (w:=w)),ab _ _⟩
def S5[aQ w A n B m N](j:Hx N.fits)(hs:Hx N.small)(b:Hx (a6 N=0))(l:Hx (BJ N cap=E))(r:Hx (uV N cap=V))(z:Hx (V.length=y)):
  () 94 #[.agg #[.slice A n c,.slice B m d],cap] w λe w'=>∃K A c,e=.returned (.tuple #[K,.slice A y c,E])/\bM w' w A c V/\aj w' w:=by
 obtain rfl:=z.o;exact Wg j hs b l r
def zc[aQ w A n B m N](l:Hx N.fits)(hs:Hx N.small)(b:Hx (a6 N=0))(r:Hx (BJ N cap=E))(z:Hx (uV N cap=V)):
  () 50 #[.agg #[.slice A n c,.slice B m d],(3:Int),cap] w (iN w E V):=by
 have D:=@aa;obtain⟨y,j⟩:=lC V.length;go_enter func50,ntmps50
 go_upto_region 1 with fail
 refine aw (λF _ G=>?_)
 go_wp2_with (go_at_call 94;refine(S5 l hs b r z j).mono ?_;rintro e I ⟨K,AC,cC,rfl,C,_⟩)
 go_ret2;exact⟨AC,cC,by rw[j.o];rfl,(show aI _ _ 98 2 _ _ _ _ from C).at.less (ai (w:=w)),ab _ _⟩
def D8(k1:(pl==1)=false)(k2:(pl==2)=false)(k3:(pl==3)=false)(k4:(pl==4)=false):
  () 50 #[.agg #[.slice A n c,.slice B m d],pl,cap] w (iN w 11 []):=by
 go_enter func50,ntmps50
 go_upto_region 1 with fail
 refine aw (λb _ e=>?_)
 go_wp2_with fail
 go_ret2;exact⟨none,0,rfl,bM.nil _ _,ab _ _⟩
def OF[aQ w A n B m N](e:Hx N.fits)(hs:Hx N.small)(b:Hx (a6 N=0))(hm:m<=12)(z:pl≠4)(C:Hx (gpE N pl cap=E))(D:Hx (Wh N pl cap=V)):
  () 50 #[.agg #[.slice A n c,.slice B m d],pl,cap] w (iN w E V):=by
 have hE:=C.o;have hV:=D.o;unfold gpE at hE;unfold Wh at hV;by_cases j:pl=1
 .subst j;rw[ah rfl]at hE hV;exact za e hs hm (ae hE) (ae hV)
 rw[ag j]at hE hV;by_cases l:pl=2
 .subst l;rw[ah rfl]at hE hV;exact zb e hs b hm (ae hE) (ae hV)
 rw[ag l]at hE hV;by_cases r:pl=3
 .subst r;rw[ah rfl]at hE hV;exact zc e hs b (ae hE) (ae hV)
 rw[ag r]at hE hV;subst hE hV;exact D8 (by simpa using j) (by simpa using l) (by simpa using r) (by simpa using z)
end
variable{b:Nat}{LE P1 P2 P3 P4:Int}{LV:List (Int×Int)}{v:Value}
def lw(w:ay)(pl:Int)(V:List (Int×Int))(b j l m E:Int)(e:Ending)(w':ay):Prop:=
 ∃A c,e=.returned (.tuple #[.agg #[pl,.slice A V c,b,j,l,m],E])/\bM w' w.1.size A c V/\aj w' w
section
variable{w:World}{n k y:Nat}{N:aU}{V:List (Int×Int)}
theorem jp{x y z s t:Value}{g:Nat}[l:aF w u](hg:w<=g):aj ((((((u.setCell (g,0) x).setCell (g,1) y).setCell (g,2) z).setCell (g,3) v).setCell (g,4) s).setCell (g,5) t) w:=
 ⟨(((((l.st.setCell (p:=⟨g,0,none⟩) hg _).setCell (p:=⟨g,1,none⟩) hg _).setCell (p:=⟨g,2,none⟩) hg _).setCell (p:=⟨g,3,none⟩) hg _).setCell (p:=⟨g,4,none⟩) hg _).setCell (p:=⟨g,5,none⟩) hg _⟩
def uc{x y z s t:Value}{g:Nat}(h:bM u b A c V)(hp:∀e,A=some e->e.block≠g):bM ((((((u.setCell (g,0) x).setCell (g,1) y).setCell (g,2) z).setCell (g,3) v).setCell (g,4) s).setCell (g,5) t) b A c V:=
 (((((h.ec (q:=⟨g,0,none⟩) hp _).ec (q:=⟨g,1,none⟩) hp _).ec (q:=⟨g,2,none⟩) hp _).ec (q:=⟨g,3,none⟩) hp _).ec (q:=⟨g,4,none⟩) hp _).ec (q:=⟨g,5,none⟩) hp _
def s4[aQ w A n B m N](L:Hx N.fits)(hs:Hx N.small)(P:cap<=144115188075855872)
  (b:Hx (∀(u:ay) [aQ u A n B m N],() 50 #[.agg #[(A,n,c),(B,m,d)],pl,cap] u (iN u LE LV))) (M:LV.length<=65536)
  (z:Hx (a6 N=0)) (j:Hx (LE=0)) (C:Hx (j9 N cap LV=0)) (D:Hx (oO N cap LV=(P1,P2,P3,P4))):
  () 17 #[.agg #[(A,n,c),(B,m,d)],pl,cap] w (lw w pl LV P1 P2 P3 P4 0):=by
 have S:=@aa;have T:=@aP;obtain rfl:=j.o;obtain⟨y,F⟩:=lh LV.length;have G:=ae F;rw[F]at M;have I:=z;clear F j
 go_in
 go_upto_region 1 with fail
 refine cT (λJ _ U Q=>?_)
 go_upto_region 8 with(first|(go_at_call 40;(with_reducible refine(f0 L hs I).mono ?_);rintro e u ⟨rfl,_⟩)|(go_at_call 50;refine(b.o _).mono ?_;rintro e O ⟨AC,cC,rfl,l,_⟩;rw[G.o];obtain⟨l,-⟩:bM O J.1.size AC cC LV/\True:=⟨(show aI _ _ 98 2 _ _ _ _ from l).less (ai (w:=J)),bA⟩;obtain⟨X,-⟩:Is O AC y LV/\True:=⟨⟨l.rd,G.o.symm⟩,bA⟩)|(go_at_call 14;refine mv (GV L hs M P C D) λY _=>?_))
 refine aw (λZ _ ks=>?_)
 go_wp2_with fail
 have K:∀r,AC=some r->r.block≠w.1.size+1:=λr e=>by have h1:=l.fresh r e;have h2:=Q.al.lt;omega
 refine a8 (v:=.tuple #[.agg #[pl,(AC,y,cC),P1,P2,P3,P4],au]) ?_ rfl ⟨AC,cC,by rw[G.o],uc ((show aI _ _ 98 2 _ _ _ _ from l).at.less (ai (w:=w) (w':=J))) K,jp (b9 _)⟩;rw[b8 rfl];go_simp
def zd(E:Int):Value:=.tuple #[.agg #[au,(),au,au,au,au],E]
def Uc[aQ w A n B m N](l:Hx N.fits)(hs:Hx N.small)(b:Hx (a6 N=E))(j:E≠0):
  () 17 #[.agg #[(A,n,c),(B,m,d)],pl,cap] w (aD w (zd E)):=by
 have r:=@aa;have z:=@aP;have C:(E !=0)=true:=by simp[j]
 clear j
 go_in
 go_upto_region 1 with fail
 refine cT (λD _ F G=>?_)
 go_wp2_with (go_at_call 40;(with_reducible refine(f0 l hs b).mono ?_);rintro e u ⟨rfl,_⟩)
 refine a8 (v:=.tuple #[.agg #[au,(),au,au,au,au],E]) ?_ rfl ⟨rfl,jp (b9 _)⟩;rw[b8 rfl];go_simp
def s5[aQ w A n B m N](r:Hx N.fits)(hs:Hx N.small)
  (b:Hx (∀(u:ay) [aQ u A n B m N],() 50 #[.agg #[(A,n,c),(B,m,d)],pl,cap] u (iN u LE LV)))
  (j:Hx (a6 N=0)) (l:LE≠0):
  () 17 #[.agg #[(A,n,c),(B,m,d)],pl,cap] w (aD w (zd LE)):=by
 have z:=@aa;have C:=@aP;have D:(LE !=0)=true:=by simp[l]
 clear l
 go_in
 go_upto_region 1 with fail
 refine cT (λF _ G I=>?_)
 go_wp2_with (first|(go_at_call 40;(with_reducible refine(f0 r hs j).mono ?_);rintro e u ⟨rfl,_⟩)|(go_at_call 50;refine(b.o _).mono ?_;rintro e J ⟨AC,cC,rfl,K,_⟩))
 refine a8 (v:=.tuple #[.agg #[au,(),au,au,au,au],LE]) ?_ rfl ⟨rfl,jp (b9 _)⟩;rw[b8 rfl];go_simp
def D9[aQ w A n B m N](D:Hx N.fits)(hs:Hx N.small)(I:cap<=144115188075855872)
  (b:Hx (∀(u:ay) [aQ u A n B m N],() 50 #[.agg #[(A,n,c),(B,m,d)],pl,cap] u (iN u 0 LV))) (F:LV.length<=65536)
  (l:Hx (a6 N=0)) (j:Hx (j9 N cap LV=E)) (r:E≠0):
  () 17 #[.agg #[(A,n,c),(B,m,d)],pl,cap] w (aD w (zd 26)):=by
 have L:=@aa;have M:=@aP;obtain⟨y,z⟩:=lh LV.length;have G:=ae z;rw[z]at F;have C:Hx (oO N cap LV=(0,0,0,0)):=ae (by rw[oO,j.o,ag r]);have O:(E !=0)=true:=by simp[r]
 clear z r
 go_in
 go_upto_region 1 with fail
 refine cT (λP _ Q S=>?_)
 go_upto_region 8 with(first|(go_at_call 40;(with_reducible refine(f0 D hs l).mono ?_);rintro e u ⟨rfl,_⟩)|(go_at_call 50;refine(b.o _).mono ?_;rintro e J ⟨AC,cC,rfl,K,_⟩;rw[G.o];obtain⟨T,-⟩:Is J AC y LV/\True:=⟨⟨K.rd,G.o.symm⟩,bA⟩)|(go_at_call 14;refine mv (GV D hs F I j C) λU _=>?_))
 refine aw (λX _ Y=>?_)
 go_wp2_with fail
 refine a8 (v:=.tuple #[.agg #[au,(),au,au,au,au],(26:Int)]) ?_ rfl ⟨rfl,jp (b9 _)⟩;rw[b8 rfl];go_simp
end
