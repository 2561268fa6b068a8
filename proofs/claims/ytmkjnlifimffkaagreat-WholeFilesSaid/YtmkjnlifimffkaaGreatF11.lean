/- Lemmas. -/
import Derived.Test.YtmkjnlifimffkaaGreatF10
import Derived.Test.YtmkjnlifimffkaaGreatF04
namespace Go.Proofs.YtmkjnlifimffkaaGreat
open Go.RowKit Tryz
set_option linter.all false
set_option maxRecDepth 100000
set_option maxHeartbeats 0
section
variable{P:Program}
def kX(zs xs:av):Bool:=aJ zs xs&&decide (zs.length=2)
def U3(A B:cD)(c d:Nat)(zs xs:av)(w:ay)(m:zs.length<=1000000)(h:Rd w A zs):
  () 214 #[.agg #[.slice A zs c,.slice B xs d]] w (o6 w (.bool (kX zs xs))):=by
 have b:=(aY w.1.size w).alloc (an _) (.cells #[.slice A zs c,.slice B xs d] 28);have k1:=aB.new w 28 #[.slice A zs c,.slice B xs d];rcases hr:aJ zs xs with _|_
 .have j:=ae hr;have l:Hx (kX zs xs=false):=ae (by simp[kX,hr])
  go_in
  go_wp2_with fail
  refine(fW A B c d zs xs _ m (h.below b)).mono ?_;rintro e w1 ⟨rfl,hb⟩;rw[j.o]
  go_wp2
  go_ret;exact⟨bP l.o.symm,dW b hb⟩
 .have j:=ae hr;have l:Hx (kX zs xs=((zs.length:Int)==2)):=ae (by rw[kX,hr,wh,rX];simp;omega)
  go_in
  go_wp2_with fail
  refine(fW A B c d zs xs _ m (h.below b)).mono ?_;rintro e w1 ⟨rfl,hb⟩;rw[j.o];replace k1:=k1.keep hb;replace b:=dW b hb;have⟨q0,q1⟩:=di k1
  go_wp2
  go_ret;exact⟨bP l.o.symm,b⟩
def Fk(t:TypeId)(ht:P.underlying t=some (.slice (P.elem t)))(hs:(P.info? (P.elem t)).map (·.size)=some 1)(b off l c k m:Nat)(i j:Int)(hi:i=(k:Int))(r:j=(m:Int))(u:k<m)(hm:m<=c)(w:ay):
  (Instr.slice t (.slice (some ⟨b,off,none⟩) l c) (some (.int .i64 i)) (some (.int .i64 j)) (some (.int .i64 j))).run P w=.ok (.slice (some ⟨b,off+k,none⟩) (m-k) (m-k)) w:=by
 subst hi r;rw[wn w t (some ⟨b,off,none⟩) l c ht .i64 .i64 .i64 k m m om om om om,gO hs];have:¬m=k:=om;by_cases e:k=0
 .subst e;simp[Result.andThen,sliced,this,Addr.add]
 .simp[Result.andThen,sliced,this,Addr.add,e]
def U4(A:cD)(b off c d M N i S:Nat)(xs:av)(w:ay)(hd:xs.length<=d)(B:M<=1024)(hN:N<=1024)(m:1<=N)(r:Hx (xs.length=M*N))(u:xs.length<=65536)(hi:i<M)(hS:Hx (i*N=S))(h:Rd w A [(M:Int),(N:Int)]):
  () 169 #[.agg #[(A,2,c),.slice (some ⟨b,off,none⟩) xs d],i] w λe w'=>e=.returned (.slice (some ⟨b,off+S,none⟩) N N)/\w'=w.alloc (.cells #[(A,2,c),.slice (some ⟨b,off,none⟩) xs d] 28):=by
 obtain⟨C,oa,rfl,y,z⟩:=(h.alloc (.cells #[(A,2,c),.slice (some ⟨b,off,none⟩) xs d] 28)) 1 (N:Int) rfl;have l:S+N<=xs.length:=by rw[r.o,<-hS.o,<-na];exact hZ _ hi
 have m1:(i:Int)*(N:Int)=(S:Int):=by rw[<-hS.o,mm]
 have D:((i:Int)+1)*(N:Int)=(S:Int)+N:=by rw[jv,m1,vX]
 have j:=Fk (P:=prog) 26 aq aq b off xs.length d S (S+N) (S:Int) ((S:Int)+N) rfl om om om;rw[J8]at j
 go_in
 go_wp2
 go_ret;exact⟨rfl,rfl⟩
end
def pn(A B)(c d)(xs b)(w)(hs:xs.length<=1000000)(e:b.length<=1000000)(h:Rd w A xs)(j:Rd w B b):
  () 70 #[.slice A xs c,.slice B b d] w (o6 w (.bool (decide (xs=b)))):=
 (tq A B c d xs b w hs e h j).mono λ_ _ ⟨l,m,hm⟩=>⟨l,by rw[hm];exact below_drewN (aY _ _) m⟩
def eb(zs xs b j l e:av):Bool:=kX zs xs&&aJ b j&&aJ l e&&decide (b=[zs.getD 0 0])&&decide ((e.length:Int)=zs.getD 1 0)
def Fl(A B C D E F:cD)(c d G d' J L:Nat)(zs xs m u r y:av)(w:ay)(hzl:zs.length<=1000000)(U:m.length<=1000000)(rg:r.length<=1000000)(N:Rd w A zs)(Q:Rd w C m)(X:Rd w E r):
  () 168 #[.agg #[.slice A zs c,.slice B xs d],.agg #[.slice C m G,.slice D u d'],.agg #[.slice E r J,.slice F y L]] w (o6 w (.bool (eb zs xs m u r y))):=by
 have R:=(((aY w.1.size w).alloc (an _) (.cells #[.slice A zs c,.slice B xs d] 28)).alloc aG (.cells #[.slice C m G,.slice D u d'] 28)).alloc bY (.cells #[.slice E r J,.slice F y L] 28);have k1:=((aB.new w 28 #[.slice A zs c,.slice B xs d]).alloc (.cells #[.slice C m G,.slice D u d'] 28)).alloc (.cells #[.slice E r J,.slice F y L] 28);have k2:=(aB.fx (w.alloc (.cells #[.slice A zs c,.slice B xs d] 28)) 28 #[.slice C m G,.slice D u d'] (n:=w.1.size+1) aG).alloc (.cells #[.slice E r J,.slice F y L] 28);have k3:=aB.fx ((w.alloc (.cells #[.slice A zs c,.slice B xs d] 28)).alloc (.cells #[.slice C m G,.slice D u d'] 28)) 28 #[.slice E r J,.slice F y L] (n:=w.1.size+1+1) aG;replace N:=N.below R;replace Q:=Q.below R;replace X:=X.below R;have M:=ae λ(w':ay) (h:Rd w' A zs)=>U3 A B c d zs xs w' hzl h;have T:=ae λ(w':ay) (h:Rd w' C m)=>fW C D G d' m u w' U h;have V:=ae λ(w':ay) (h:Rd w' E r)=>fW E F J L r y w' rg h;rcases q1:kX zs xs with _|_
 .rw[q1]at M;have O:Hx (eb zs xs m u r y=false):=ae (by simp[eb,q1])
  go_in
  go_wp2
  generalize((w.alloc (.cells #[.slice A zs c,.slice B xs d] 28)).alloc (.cells #[.slice C m G,.slice D u d'] 28)).alloc (.cells #[.slice E r J,.slice F y L] 28)=W0 at*;have l:Hx (∀w':World,Below (W0).1.size (W0) w'->Below (W0).1.size (W0) w'/\w'.cell? (w.1.size,0)=some (.slice A zs c)/\w'.cell? (w.1.size,1)=some (.slice B xs d)):=λw' j=>⟨j,(k1.keep j).cell 0,(k1.keep j).cell 1⟩;refine wp_region_held_drew (S:=λw'=>Below (W0).1.size (W0) w'/\w'.cell? (w.1.size,0)=some (.slice A zs c)/\w'.cell? (w.1.size,1)=some (.slice B xs d)) aq (l.o _ (aY _ _).drew) (λhHeld=>?_);have b:Below (W0).1.size (W0) (W0).drew:=(aY _ _).drew;refine oA 0 ?_;refine aM 1 λK hK=>?_;go_simp;refine(M.o _ (N.below b)).mono ?_;rintro e w1 ⟨rfl,hb⟩;replace b:=dW b hb;refine hK.out _ _ (l.o _ b) (λhHeld=>?_)
  try dsimp only[Act.put,List.setIfInBounds_toArray,List.set_cons_zero,List.set_cons_succ]
  refine oA 2 ?_;refine fA 3 ?_;refine fA 4 ?_;refine oA 5 ?_;refine oA 6 ?_;refine fA 7 ?_;refine fA 8 ?_;refine oA 9 ?_;refine oA 10 ?_;refine fA 11 ?_;refine fA 12 ?_;refine fA 13 ?_;refine fA 14 ?_;refine fA 15 ?_;refine fA 16 ?_;refine fA 17 ?_;refine fA 18 ?_;refine oA 19 ?_;refine oA 20 ?_;refine fA 21 ?_;refine fA 22 ?_;refine fA 23 ?_;refine fA 24 ?_;refine fA 25 ?_;refine fA 26 ?_;refine fA 27 ?_;refine fA 28 ?_;refine oA 29 ?_;refine oA 30 ?_;refine aZ ?_
  go_wp2
  go_ret;exact⟨bP O.o.symm,dW R b⟩
 rcases q2:aJ m u with _|_
 .rw[q1]at M;rw[q2]at T;have O:Hx (eb zs xs m u r y=false):=ae (by simp[eb,q2])
  go_in
  go_wp2
  generalize((w.alloc (.cells #[.slice A zs c,.slice B xs d] 28)).alloc (.cells #[.slice C m G,.slice D u d'] 28)).alloc (.cells #[.slice E r J,.slice F y L] 28)=W0 at*;have l:Hx (∀w':World,Below (W0).1.size (W0) w'->Below (W0).1.size (W0) w'/\w'.cell? (w.1.size,0)=some (.slice A zs c)/\w'.cell? (w.1.size,1)=some (.slice B xs d)/\w'.cell? (w.1.size+1,0)=some (.slice C m G)/\w'.cell? (w.1.size+1,1)=some (.slice D u d')):=λw' j=>⟨j,(k1.keep j).cell 0,(k1.keep j).cell 1,(k2.keep j).cell 0,(k2.keep j).cell 1⟩;refine wp_region_held_drew (S:=λw'=>Below (W0).1.size (W0) w'/\w'.cell? (w.1.size,0)=some (.slice A zs c)/\w'.cell? (w.1.size,1)=some (.slice B xs d)/\w'.cell? (w.1.size+1,0)=some (.slice C m G)/\w'.cell? (w.1.size+1,1)=some (.slice D u d')) aq (l.o _ (aY _ _).drew) (λhHeld=>?_);have b:Below (W0).1.size (W0) (W0).drew:=(aY _ _).drew;refine oA 0 ?_;refine aM 1 λK hK=>?_;go_simp;refine(M.o _ (N.below b)).mono ?_;rintro e w1 ⟨rfl,hb⟩;replace b:=dW b hb;refine hK.out _ _ (l.o _ b) (λhHeld=>?_)
  try dsimp only[Act.put,List.setIfInBounds_toArray,List.set_cons_zero,List.set_cons_succ]
  refine oA 2 ?_;refine oA 3 ?_;refine aM 4 λK hK=>?_;go_simp;refine(T.o _ (Q.below b)).mono ?_;rintro e w2 ⟨rfl,hb⟩;replace b:=dW b hb;refine hK.out _ _ (l.o _ b) (λhHeld=>?_)
  try dsimp only[Act.put,List.setIfInBounds_toArray,List.set_cons_zero,List.set_cons_succ]
  refine oA 5 ?_;refine oA 6 ?_;refine fA 7 ?_;refine fA 8 ?_;refine oA 9 ?_;refine oA 10 ?_;refine fA 11 ?_;refine fA 12 ?_;refine fA 13 ?_;refine fA 14 ?_;refine fA 15 ?_;refine fA 16 ?_;refine fA 17 ?_;refine fA 18 ?_;refine oA 19 ?_;refine oA 20 ?_;refine fA 21 ?_;refine fA 22 ?_;refine fA 23 ?_;refine fA 24 ?_;refine fA 25 ?_;refine fA 26 ?_;refine fA 27 ?_;refine fA 28 ?_;refine oA 29 ?_;refine oA 30 ?_;refine aZ ?_
  go_wp2
  go_ret;exact⟨bP O.o.symm,dW R b⟩
 rcases q3:aJ r y with _|_
 .rw[q1]at M;rw[q2]at T;rw[q3]at V;have O:Hx (eb zs xs m u r y=false):=ae (by simp[eb,q3])
  go_in
  go_wp2
  generalize((w.alloc (.cells #[.slice A zs c,.slice B xs d] 28)).alloc (.cells #[.slice C m G,.slice D u d'] 28)).alloc (.cells #[.slice E r J,.slice F y L] 28)=W0 at*;have l:Hx (∀w':World,Below (W0).1.size (W0) w'->Below (W0).1.size (W0) w'/\w'.cell? (w.1.size,0)=some (.slice A zs c)/\w'.cell? (w.1.size,1)=some (.slice B xs d)/\w'.cell? (w.1.size+1,0)=some (.slice C m G)/\w'.cell? (w.1.size+1,1)=some (.slice D u d')/\w'.cell? (w.1.size+1+1,0)=some (.slice E r J)/\w'.cell? (w.1.size+1+1,1)=some (.slice F y L)):=λw' j=>⟨j,(k1.keep j).cell 0,(k1.keep j).cell 1,(k2.keep j).cell 0,(k2.keep j).cell 1,(k3.keep j).cell 0,(k3.keep j).cell 1⟩;refine wp_region_held_drew (S:=λw'=>Below (W0).1.size (W0) w'/\w'.cell? (w.1.size,0)=some (.slice A zs c)/\w'.cell? (w.1.size,1)=some (.slice B xs d)/\w'.cell? (w.1.size+1,0)=some (.slice C m G)/\w'.cell? (w.1.size+1,1)=some (.slice D u d')/\w'.cell? (w.1.size+1+1,0)=some (.slice E r J)/\w'.cell? (w.1.size+1+1,1)=some (.slice F y L)) aq (l.o _ (aY _ _).drew) (λhHeld=>?_);have b:Below (W0).1.size (W0) (W0).drew:=(aY _ _).drew;refine oA 0 ?_;refine aM 1 λK hK=>?_;go_simp;refine(M.o _ (N.below b)).mono ?_;rintro e w1 ⟨rfl,hb⟩;replace b:=dW b hb;refine hK.out _ _ (l.o _ b) (λhHeld=>?_)
  try dsimp only[Act.put,List.setIfInBounds_toArray,List.set_cons_zero,List.set_cons_succ]
  refine oA 2 ?_;refine oA 3 ?_;refine aM 4 λK hK=>?_;go_simp;refine(T.o _ (Q.below b)).mono ?_;rintro e w2 ⟨rfl,hb⟩;replace b:=dW b hb;refine hK.out _ _ (l.o _ b) (λhHeld=>?_)
  try dsimp only[Act.put,List.setIfInBounds_toArray,List.set_cons_zero,List.set_cons_succ]
  refine oA 5 ?_;refine oA 6 ?_;refine oA 7 ?_;refine aM 8 λK hK=>?_;go_simp;refine(V.o _ (X.below b)).mono ?_;rintro e w3 ⟨rfl,hb⟩;replace b:=dW b hb;refine hK.out _ _ (l.o _ b) (λhHeld=>?_)
  try dsimp only[Act.put,List.setIfInBounds_toArray,List.set_cons_zero,List.set_cons_succ]
  refine oA 9 ?_;refine oA 10 ?_;refine fA 11 ?_;refine fA 12 ?_;refine fA 13 ?_;refine fA 14 ?_;refine fA 15 ?_;refine fA 16 ?_;refine fA 17 ?_;refine fA 18 ?_;refine oA 19 ?_;refine oA 20 ?_;refine fA 21 ?_;refine fA 22 ?_;refine fA 23 ?_;refine fA 24 ?_;refine fA 25 ?_;refine fA 26 ?_;refine fA 27 ?_;refine fA 28 ?_;refine oA 29 ?_;refine oA 30 ?_;refine aZ ?_
  go_wp2
  go_ret;exact⟨bP O.o.symm,dW R b⟩
 have xm:zs.length=2:=by simp[kX]at q1;exact q1.2
 obtain⟨z0,z1,rfl⟩:∃z0 z1,zs=[z0,z1]:=by
  match zs,xm with
  |[z0,z1],_=>exact⟨z0,z1,rfl⟩
 obtain⟨I,oa,rfl,P,Y⟩:=N 0 z0 rfl;have Z:=N.all (k:=1) (z:=z1) rfl;by_cases q4:m=[z0]
 .rw[q1]at M;rw[q2]at T;rw[q3]at V;have O:Hx (eb [z0,z1] xs m u r y=((y.length:Int)==z1)):=ae (by rw[eb,q1,q2,q3,q4,rX];simp);have CE:=ae λ(g:Nat) (w':ay) (h:Rd w' C m) (ho:Own w' g 3 [z0])=>pn C g G 1 m [z0] w' U aG h ho.rd;rw[ef q4]at CE;clear q1 q2 q3 q4
  go_in
  go_wp2_with fail
  generalize((w.alloc (.cells #[.slice (some ⟨I,oa,none⟩) 2 c,.slice B xs d] 28)).alloc (.cells #[.slice C m G,.slice D u d'] 28)).alloc (.cells #[.slice E r J,.slice F y L] 28)=W0 at*;obtain⟨t0,t1⟩:W0.cell? (I,oa)=some (.int .i64 z0)/\W0.cell? (I,oa+1)=some (.int .i64 z1):=⟨Y,Z⟩;have l:Hx (∀w':World,Below (W0).1.size (W0) w'->Below (W0).1.size (W0) w'/\w'.cell? (w.1.size,0)=some (.slice (some ⟨I,oa,none⟩) 2 c)/\w'.cell? (w.1.size,1)=some (.slice B xs d)/\w'.cell? (w.1.size+1,0)=some (.slice C m G)/\w'.cell? (w.1.size+1,1)=some (.slice D u d')/\w'.cell? (w.1.size+1+1,0)=some (.slice E r J)/\w'.cell? (w.1.size+1+1,1)=some (.slice F y L)/\w'.cell? (I,oa)=some (.int .i64 z0)/\w'.cell? (I,oa+1)=some (.int .i64 z1)):=ae (λw' j=>⟨j,(k1.keep j).cell 0,(k1.keep j).cell 1,(k2.keep j).cell 0,(k2.keep j).cell 1,(k3.keep j).cell 0,(k3.keep j).cell 1,(j.cell (p:=⟨_,_,_⟩) P).trans t0,(j.cell (p:=⟨_,_,_⟩) P).trans t1⟩);refine wp_region_held_drew (S:=λw'=>Below (W0).1.size (W0) w'/\w'.cell? (w.1.size,0)=some (.slice (some ⟨I,oa,none⟩) 2 c)/\w'.cell? (w.1.size,1)=some (.slice B xs d)/\w'.cell? (w.1.size+1,0)=some (.slice C m G)/\w'.cell? (w.1.size+1,1)=some (.slice D u d')/\w'.cell? (w.1.size+1+1,0)=some (.slice E r J)/\w'.cell? (w.1.size+1+1,1)=some (.slice F y L)/\w'.cell? (I,oa)=some (.int .i64 z0)/\w'.cell? (I,oa+1)=some (.int .i64 z1)) aq (l.o _ (aY _ _).drew) (λhHeld=>?_);have b:Below (W0).1.size (W0) (W0).drew:=(aY _ _).drew;refine oA 0 ?_;refine aM 1 λK hK=>?_;go_simp;refine(M.o _ (N.below b)).mono ?_;rintro e w1 ⟨rfl,hb⟩;replace b:=dW b hb;refine hK.out _ _ (l.o _ b) (λhHeld=>?_)
  try dsimp only[Act.put,List.setIfInBounds_toArray,List.set_cons_zero,List.set_cons_succ]
  refine oA 2 ?_;refine oA 3 ?_;refine aM 4 λK hK=>?_;go_simp;refine(T.o _ (Q.below b)).mono ?_;rintro e w2 ⟨rfl,hb⟩;replace b:=dW b hb;refine hK.out _ _ (l.o _ b) (λhHeld=>?_)
  try dsimp only[Act.put,List.setIfInBounds_toArray,List.set_cons_zero,List.set_cons_succ]
  refine oA 5 ?_;refine oA 6 ?_;refine oA 7 ?_;refine aM 8 λK hK=>?_;go_simp;refine(V.o _ (X.below b)).mono ?_;rintro e w3 ⟨rfl,hb⟩;replace b:=dW b hb;refine hK.out _ _ (l.o _ b) (λhHeld=>?_)
  try dsimp only[Act.put,List.setIfInBounds_toArray,List.set_cons_zero,List.set_cons_succ]
  refine oA 9 ?_;refine oA 10 ?_;refine oA 11 ?_;refine oA 12 ?_;refine oA 13 ?_;refine oA 14 ?_;refine oA 15 ?_;refine oA 16 ?_;refine aM 17 λK hK=>?_;go_simp;replace b:=b.alloc b.size (.cells #[.int .i64 z0] 3);refine hK.out _ _ (l.o _ b) (λhHeld=>?_)
  try dsimp only[Act.put,List.setIfInBounds_toArray,List.set_cons_zero,List.set_cons_succ]
  refine aM 18 λK hK=>?_;go_simp;refine(CE.o _ _ (Q.below b) (AR w3 3 [z0] #[.int .i64 z0] rfl)).mono ?_;rintro e w4 ⟨rfl,hb⟩;replace b:=dW b hb;refine hK.out _ _ (l.o _ b) (λhHeld=>?_)
  try dsimp only[Act.put,List.setIfInBounds_toArray,List.set_cons_zero,List.set_cons_succ]
  refine oA 19 ?_;refine oA 20 ?_;refine oA 21 ?_;refine oA 22 ?_;refine oA 23 ?_;refine oA 24 ?_;refine oA 25 ?_;refine oA 26 ?_;refine oA 27 ?_;refine oA 28 ?_;refine oA 29 ?_;refine oA 30 ?_;refine aZ ?_
  go_wp2
  go_ret;exact⟨bP O.o.symm,dW R b⟩
 .rw[q1]at M;rw[q2]at T;rw[q3]at V;have O:Hx (eb [z0,z1] xs m u r y=false):=ae (by simp[eb,q4]);have CE:=ae λ(g:Nat) (w':ay) (h:Rd w' C m) (ho:Own w' g 3 [z0])=>pn C g G 1 m [z0] w' U aG h ho.rd;rw[dD q4]at CE
  go_in
  go_wp2
  generalize((w.alloc (.cells #[.slice (some ⟨I,oa,none⟩) 2 c,.slice B xs d] 28)).alloc (.cells #[.slice C m G,.slice D u d'] 28)).alloc (.cells #[.slice E r J,.slice F y L] 28)=W0 at*;obtain⟨t0,t1⟩:W0.cell? (I,oa)=some (.int .i64 z0)/\W0.cell? (I,oa+1)=some (.int .i64 z1):=⟨Y,Z⟩;have l:Hx (∀w':World,Below (W0).1.size (W0) w'->Below (W0).1.size (W0) w'/\w'.cell? (w.1.size,0)=some (.slice (some ⟨I,oa,none⟩) 2 c)/\w'.cell? (w.1.size,1)=some (.slice B xs d)/\w'.cell? (w.1.size+1,0)=some (.slice C m G)/\w'.cell? (w.1.size+1,1)=some (.slice D u d')/\w'.cell? (w.1.size+1+1,0)=some (.slice E r J)/\w'.cell? (w.1.size+1+1,1)=some (.slice F y L)/\w'.cell? (I,oa)=some (.int .i64 z0)/\w'.cell? (I,oa+1)=some (.int .i64 z1)):=ae (λw' j=>⟨j,(k1.keep j).cell 0,(k1.keep j).cell 1,(k2.keep j).cell 0,(k2.keep j).cell 1,(k3.keep j).cell 0,(k3.keep j).cell 1,(j.cell (p:=⟨_,_,_⟩) P).trans t0,(j.cell (p:=⟨_,_,_⟩) P).trans t1⟩);refine wp_region_held_drew (S:=λw'=>Below (W0).1.size (W0) w'/\w'.cell? (w.1.size,0)=some (.slice (some ⟨I,oa,none⟩) 2 c)/\w'.cell? (w.1.size,1)=some (.slice B xs d)/\w'.cell? (w.1.size+1,0)=some (.slice C m G)/\w'.cell? (w.1.size+1,1)=some (.slice D u d')/\w'.cell? (w.1.size+1+1,0)=some (.slice E r J)/\w'.cell? (w.1.size+1+1,1)=some (.slice F y L)/\w'.cell? (I,oa)=some (.int .i64 z0)/\w'.cell? (I,oa+1)=some (.int .i64 z1)) aq (l.o _ (aY _ _).drew) (λhHeld=>?_);have b:Below (W0).1.size (W0) (W0).drew:=(aY _ _).drew;refine oA 0 ?_;refine aM 1 λK hK=>?_;go_simp;refine(M.o _ (N.below b)).mono ?_;rintro e w1 ⟨rfl,hb⟩;replace b:=dW b hb;refine hK.out _ _ (l.o _ b) (λhHeld=>?_)
  try dsimp only[Act.put,List.setIfInBounds_toArray,List.set_cons_zero,List.set_cons_succ]
  refine oA 2 ?_;refine oA 3 ?_;refine aM 4 λK hK=>?_;go_simp;refine(T.o _ (Q.below b)).mono ?_;rintro e w2 ⟨rfl,hb⟩;replace b:=dW b hb;refine hK.out _ _ (l.o _ b) (λhHeld=>?_)
  try dsimp only[Act.put,List.setIfInBounds_toArray,List.set_cons_zero,List.set_cons_succ]
  refine oA 5 ?_;refine oA 6 ?_;refine oA 7 ?_;refine aM 8 λK hK=>?_;go_simp;refine(V.o _ (X.below b)).mono ?_;rintro e w3 ⟨rfl,hb⟩;replace b:=dW b hb;refine hK.out _ _ (l.o _ b) (λhHeld=>?_)
  try dsimp only[Act.put,List.setIfInBounds_toArray,List.set_cons_zero,List.set_cons_succ]
  refine oA 9 ?_;refine oA 10 ?_;refine oA 11 ?_;refine oA 12 ?_;refine oA 13 ?_;refine oA 14 ?_;refine oA 15 ?_;refine oA 16 ?_;refine aM 17 λK hK=>?_;go_simp;replace b:=b.alloc b.size (.cells #[.int .i64 z0] 3);refine hK.out _ _ (l.o _ b) (λhHeld=>?_)
  try dsimp only[Act.put,List.setIfInBounds_toArray,List.set_cons_zero,List.set_cons_succ]
  refine aM 18 λK hK=>?_;go_simp;refine(CE.o _ _ (Q.below b) (AR w3 3 [z0] #[.int .i64 z0] rfl)).mono ?_;rintro e w4 ⟨rfl,hb⟩;replace b:=dW b hb;refine hK.out _ _ (l.o _ b) (λhHeld=>?_)
  try dsimp only[Act.put,List.setIfInBounds_toArray,List.set_cons_zero,List.set_cons_succ]
  refine oA 19 ?_;refine oA 20 ?_;refine fA 21 ?_;refine fA 22 ?_;refine fA 23 ?_;refine fA 24 ?_;refine fA 25 ?_;refine fA 26 ?_;refine fA 27 ?_;refine fA 28 ?_;refine oA 29 ?_;refine oA 30 ?_;refine aZ ?_
  go_wp2
  go_ret;exact⟨bP O.o.symm,dW R b⟩
variable{i j m:Nat}{O gs xs ys:List Int}{x y z:Int}
def po(n:Nat)(xs:av)(i:Nat):List Int:=(xs.drop (i*n)).take n
def Df{n:Nat}(h:xs.length=m*n)(hi:i<m):(po n xs i).length=n:=by
 have:i*n+n<=m*n:=by rw[<-na];exact hZ _ hi
 simp[po];omega
def MB{n:Nat}(h:z∈po n xs i):z∈xs:=dC (cG h)
def nU(xs e b:av)(i:Nat):Int:=cA (sx ((po b.length xs i).zip b)) (e.getD i 0)
def fY(xs b e:av)(m:Nat):List Int:=(List.range m).map (nU xs b e)
def fZ(xs b e)(m):(fY xs b e m).length=m:=by simp[fY]
def Aa(xs b e)(m):fY xs b e (m+1)=fY xs b e m++[nU xs b e m]:=by simp[fY,j0]
def fm(f:Nat->List Int)(b:av)(k:Nat):List Int:=f k++b.drop k
def mV{f:Nat->List Int}{k:Nat}(b:(f k).length=k)(e:O[k]?=some y):(fm f O k)[k]?=some y:=by
 rw[fm,ew om,b,eB,ff];exact e
def kF{f:Nat->List Int}{k:Nat}(b:(f k).length=k)(hs:f (k+1)=f k++[z])(e:ys[k]?=some y):(fm f ys k).set k z=fm f ys (k+1):=by
 have⟨hk,_⟩:=a5.1 e;rw[fm,kH _ _ om,b,eB,fm,hs,dg];congr 1;rw[ei hk,jq];rfl
def mY{f:Nat->List Int}{k:Nat}(b:¬k<O.length):fm f O k=f k:=by
 rw[fm,ey om,fG]
def eC(gs b:av):List Int:=gs.flatMap λg=>b.map λv=>ch g v
def qE(gs b):(eC gs b).length=gs.length*b.length:=by
 induction gs with
 |nil=>simp[eC]
 |cons g gs e=>
  rw[eC]at e;simp only[eC,g8,a1,br,dm,e,na];omega
def MC{g v:Int}(hg:gs[i]?=some g)(hv:O[j]?=some v):(eC gs O)[i*O.length+j]?=some (ch g v):=by
 induction gs generalizing i with
 |nil=>simp at hg
 |cons a gs b=>
  have e:j<O.length:=(a5.1 hv).1;simp only[eC,g8];cases i with
  |zero=>
   simp at hg;subst hg;rw[jt,bX,lI (by simpa using e),bj,hv];rfl
  |succ i=>
   simp at hg;rw[ew (by simp[na];omega),br,show(i+1)*O.length+j-O.length=i*O.length+j from by rw[na];omega];exact b hg
def j5(n:Nat)(xs gs:av)(j m:Nat):Int:=(List.range m).foldl (λs i=>cA s (ch (xs.getD (i*n+j) 0) (gs.getD i 0))) 0
def Iu{n:Nat}{g:Int}(b:xs[m*n+j]?=some x)(hg:gs[m]?=some g):j5 n xs gs j (m+1)=cA (j5 n xs gs j m) (ch x g):=by
 simp[j5,j0,aX,b,hg]
def Fm(n)(xs gs)(j m):bo (j5 n xs gs j m):=by
 cases m with
 |zero=>simp[j5,bo]
 |succ m=>
  simp only[j5,j0,nr,kl,List.foldl_nil];exact jI _ _
def j1(n:Nat)(xs gs:av):List Int:=(List.range n).map λj=>j5 n xs gs j gs.length
def eU(n:Nat)(xs gs:av)(k j:Nat):List Int:=(List.range n).map λt=>j5 n xs gs t (if t<j then k+1 else k)
def Fo{n:Nat}{k:Nat}(b:j<n):(eU n xs gs k j)[j]?=some (j5 n xs gs j k):=by
 simp[eU,b]
def Dg{n:Nat}{k:Nat}{g:Int}(e:j<n)(l:xs[k*n+j]?=some x)(hg:gs[k]?=some g):
  (eU n xs gs k j).set j (cA (j5 n xs gs j k) (ch x g))=eU n xs gs k (j+1):=by
 apply ek;intro i;rw[eZ];by_cases hi:j=i
 .subst hi;simp[eU,e,Iu l hg]
 .rw[ag hi];simp only[eU,bj];by_cases b:i<n
  .simp only[fI b,nC];by_cases h:i<j
   .rw[ah h,ah om]
   .rw[ag h,ag om]
  .rw[c6 (by simpa using b)];rfl
def Dh(n)(xs gs)(k):eU n xs gs k n=eU n xs gs (k+1) 0:=by
 apply fj;intro t ht;rw[hM]at ht;rw[ah ht,ag om]
def Ad(n)(xs gs):eU n xs gs 0 0=List.replicate n 0:=by
 rw[vS];refine⟨by simp[eU],λz b=>?_⟩;obtain⟨t,_,rfl⟩:=bC.1 b;simp[j5]
def Di(n)(xs gs):eU n xs gs gs.length 0=j1 n xs gs:=by simp[eU,j1]
def Ae{l:av}{p:Nat}(h:l[p]?=some z):l.take (p+1)=l.take p++[z]:=by
 have⟨hp,e⟩:=a5.1 h;rw[vI hp,e]
section
variable{P:Program}{args:Array Value}{v:Value}{b off:Nat}{D Y zs:List Int}
section
section
variable{f:FuncId}{w:World}
def Iv(h:Calls P f args w λe w'=>e=.returned v/\w=w'):Calls P f args w (o6 w v):=h.mono λ_ _ ⟨b,j⟩=>⟨b,j▸aY _ _⟩
def Iw{n:Int}(h:Calls P f args w (uw w n)):Calls P f args w (o6 w n):=h.mono λ_ _ ⟨b,m,e⟩=>⟨b,e▸below_drewN (aY _ _) m⟩
end
def tF(A:cD)(b off c d M N i S:Nat)(xs:av)(w:ay)(hd:xs.length<=d)(l:M<=1024)(hN:N<=1024)(e:1<=N)(m:Hx (xs.length=M*N))(j:xs.length<=65536)(hi:i<M)(hS:Hx (i*N=S))(h:Rd w A [(M:Int),(N:Int)]):
  () 169 #[.agg #[(A,2,c),.slice (some ⟨b,off,none⟩) xs d],i] w (o6 w (.slice (some ⟨b,off+S,none⟩) N N)):=
 (U4 A b off c d M N i S xs w hd l hN e m j hi hS h).mono λ_ _ ⟨r,u⟩=>⟨r,u▸(aY _ _).alloc (an _) _⟩
def Rd.row{w:ay}(h:Rd w (some ⟨b,off,none⟩) xs)(n i:Nat):Rd w (some ⟨b,off+i*n,none⟩) (po n xs i):=by
 intro j z l;have m:xs[i*n+j]?=some z:=by
  rw[po,eY]at l
  split at l
  .rwa[ff]at l
  .cases l
 obtain⟨C,r,e,hb,u⟩:=h _ _ m;injection e with e;injection e with y B;subst y;subst B
 exact⟨b,off+i*n,rfl,hb,by rw[nl];exact u⟩
def uC{e:av}(h:eb zs xs O D Y e=true):
  ∃M N:Nat,zs=[(M:Int),(N:Int)]/\O=[(M:Int)]/\xs.length=M*N/\D.length=M/\e.length=N/\1<=M/\1<=N/\M<=1024/\N<=1024/\xs.length<=65536/\aJ zs xs=true/\aJ O D=true/\aJ Y e=true:=by
 simp only[eb,kX,bW,cu]at h;have⟨⟨⟨⟨⟨h1,h2⟩,h3⟩,h4⟩,h5⟩,h6⟩:=h;obtain⟨z0,z1,rfl⟩:∃z0 z1,zs=[z0,z1]:=by
  match zs,h2 with
  |[z0,z1],_=>exact⟨z0,z1,rfl⟩
 have⟨g1,g2⟩:=(bf _ _).1 h1;have⟨k1,k2⟩:=(bf _ _).1 h3;obtain⟨-,-,b,j⟩:=(bE _).1 g1;have a0:=eo b (z:=z0) aG;have l:=eo b (z:=z1) aG;obtain⟨M,rfl,m⟩:=jP a0.1;obtain⟨N,rfl,hN⟩:=jP l.1;simp at h5 h6;subst h5;simp[aN]at g2 k2 j;have r:xs.length=M*N:=by exact_mod_cast g2
 exact⟨M,N,rfl,rfl,r,om,om,m,hN,om,om,om,h1,h3,h4⟩
def MD(A B C D E F:cD)(c d Z d' e' T:Nat)(zs xs ts j U u:av)(w:ay)(hd:xs.length<=d)(rg:U.length<=1000000)(h1:Rd w A zs)(h2:Rd w B xs)(h3:Rd w C ts)(h4:Rd w D j)(h5:Rd w E U)(h6:Rd w F u)(hx:Hx (∀z∈xs,bo z))(hy:Hx (∀z∈j,bo z))(hv:Hx (∀z∈u,bo z))(hr:Hx (eb zs xs ts j U u=true)):
  () 158 #[.agg #[.slice A zs c,.slice B xs d],.agg #[.slice C ts Z,.slice D j d'],.agg #[.slice E U e',.slice F u T]] w (nE w ts (fY xs j u j.length) 0):=by
 obtain⟨M,N,rfl,rfl,V,Es,vg,Mb,zW,hM,hN,P0,-,-,-⟩:=uC hr.o;have q3:=ae V;have HYL:=ae Es;have Fp:=ae vg;have hyM:j.length<=1024:=om;have hvN:u.length<=1024:=om;have EW:0<xs.length:=by rw[V];exact vT Mb zW
 obtain⟨bx,ox,x0,rfl,-,-,-⟩:=h2.get (k:=0) EW;clear V Es vg;have kW:=aB.new w 28 #[(A,2,c),.slice (some ⟨bx,ox,none⟩) xs d];have kB:=aB.fx (w.alloc (.cells #[(A,2,c),.slice (some ⟨bx,ox,none⟩) xs d] 28)) 28 #[(C,1,Z),.slice D j d'] (n:=w.1.size+1) aG;have kX:=aB.fx ((w.alloc (.cells #[(A,2,c),.slice (some ⟨bx,ox,none⟩) xs d] 28)).alloc (.cells #[(C,1,Z),.slice D j d'] 28)) 28 #[.slice E U e',.slice F u T] (n:=w.1.size+1+1) aG;have kR:=aB.fx (((w.alloc (.cells #[(A,2,c),.slice (some ⟨bx,ox,none⟩) xs d] 28)).alloc (.cells #[(C,1,Z),.slice D j d'] 28)).alloc (.cells #[.slice E U e',.slice F u T] 28)) 28 #[(),()] (n:=w.1.size+1+1+1) aG
 go_in
 go_wp2_with fail
 refine(Fl A (some ⟨bx,ox,none⟩) C D E F c d Z d' e' T [(M:Int),(N:Int)] xs [(M:Int)] j U u _ aG aG rg h1.at h3.at h5.at).mono ?_;rintro e w1 ⟨rfl,hb⟩;have Ix:=aj.mk hb;clear hb;rw[hr.o];have xb:=(kR.at (w':=w1)).lt;obtain⟨q0,q1⟩:=di (kB.at (w':=w1))
 go_wp2_with fail
 clear q0 q1;refine(nF C D Z d' [(M:Int)] j _ aG om h3.at h4.at).mono ?_;rintro e w2 ⟨g,G,rfl,hg,YA,ho,X,hb⟩;have pw2:=aj.mk hb;clear hb;have qt:=X.lt;obtain⟨q0,q1⟩:=di ((kB.at (w':=w2)).alloc (.cells #[(g,1,1),.slice G j j.length] 28))
 go_wp2_with fail
 clear q0 q1;have kO:=aB.new w2 28 #[(g,1,1),.slice G j j.length];have hoW:=X.alloc (.cells #[(g,1,1),.slice G j j.length] 28);have pW:=aj.alloc w2 (.cells #[(g,1,1),.slice G j j.length] 28);generalize w2.alloc (.cells #[(g,1,1),.slice G j j.length] 28)=W at*;go_loopw [22] (λi wr=>∃k:Nat,k<=j.length/\i=.int .i64 k/\Aside G W wr/\Own wr G 65 (fm (fY xs j u) j k)/\Below w.1.size w wr) (λi _=>j.length-(intOf i).toNat)
 case atStart=>exact⟨0,aT _,rfl,Aside.refl _ _,hoW,a7 w W⟩
 case round=>
  obtain⟨k,hk,rfl,J,hO,P⟩:=hrel;have n1:w.1.size≠G:=om;have n2:w.1.size+1+1≠G:=om;have n3:w.1.size+1+1+1≠G:=om;have n4:w2.1.size≠G:=om;have Q:w.1.size<=G:=om;have mR:=J.al (kR.at (w':=W)) n3;have mO:=J.al kO n4;by_cases Y:k<j.length
  .have mW:=J.al (kW.at (w':=W)) n1;have mX:=J.al (kX.at (w':=W)) n2;have r1:=J.fc h1 (h1.at (w':=W)) Q;have r2:=J.fc h2 (h2.at (w':=W)) Q;have r6:=J.fc h6 (h6.at (w':=W)) Q;obtain⟨b,off,y,rfl,Yt,Af,L⟩:=(J.fc h4 (h4.at (w':=W)) Q).get Y;obtain⟨S,hS⟩:∃S,Hx (k*N=S):=⟨_,ae rfl⟩;have ME:k<M:=by rw[<-HYL.o];exact Y
   have hrl:(po N xs k).length=N:=Df q3.o ME;have CL:=ae λ(w':ay) (h:Rd w' A [(M:Int),(N:Int)])=>tF A bx ox c d M N k S xs w' hd hM hN zW q3 P0 ME hS h;have CD:=ae λ(w':ay) (ha:Rd w' (some ⟨bx,ox+S,none⟩) (po N xs k)) (hb:Rd w' F u)=>Iw (PY (some ⟨bx,ox+S,none⟩) F N T (po N xs k) u w' om om (ae λz hz=>hx.o z (MB hz)) hv ha hb);rw[hrl]at CD;have CA:=ae λ(w':ay)=>Iv (kM (sx ((po N xs k).zip u)) y w' (xp _) (hy.o y (aC L.o)));have HG:Hx (cA (sx ((po N xs k).zip u)) y=nU xs j u k):=ae (by
    unfold nU;rw[Fp.o,aX,L.o];rfl)
   rw[HG.o]at CA;have Qh:=ae (mV (f:=fY xs j u) (fZ xs j u k) L.o);have YI:=ae (kF (f:=fY xs j u) (fZ xs j u k) (Aa xs j u k) L.o);clear hrl
   go_wp2
   have I:Hx (∀w':World,Aside G (wr) w'->w'.cell? (w2.1.size,1)=some (.slice G j j.length)/\w'.cell? (w.1.size,0)=some (.slice A 2 c)/\w'.cell? (w.1.size,1)=some (.slice (some ⟨bx,ox,none⟩) xs d)/\w'.cell? (w.1.size+1+1,1)=some (.slice F u T)):=λw' O=>⟨(O.al mO n4).cell 1,(O.al mW n1).cell 0,(O.al mW n1).cell 1,(O.al mX n2).cell 1⟩;refine wp_region_held_drew (S:=λw'=>w'.cell? (w2.1.size,1)=some (.slice G j j.length)/\w'.cell? (w.1.size,0)=some (.slice A 2 c)/\w'.cell? (w.1.size,1)=some (.slice (some ⟨bx,ox,none⟩) xs d)/\w'.cell? (w.1.size+1+1,1)=some (.slice F u T)) aq (I.o _ (Aside.refl _ _).drew) (λhHeld=>?_);have l:Aside G (wr) (wr).drew:=(Aside.refl _ _).drew;have m:=(hO).drew;have r:=(P).drew;refine oA 0 ?_;refine oA 1 ?_;refine oA 2 ?_;refine oA 3 ?_;refine oA 4 ?_;refine oA 6 ?_;refine oA 7 ?_;refine oA 9 ?_;refine aM 5 λK hK=>?_;go_simp;refine(CL.o _ (l.fc h1 r1 Q)).mono ?_;rintro e w3 ⟨rfl,hb⟩;replace l:=l.below hb;replace m:=m.keep hb;replace r:=dW r hb;refine hK.out _ _ (I.o _ l) (λhHeld=>?_)
   try dsimp only[Act.put,List.setIfInBounds_toArray,List.set_cons_zero,List.set_cons_succ]
   have R:=(l.fc h2 r2 Q).row N k;rw[hS.o]at R;refine aM 8 λK hK=>?_;go_simp;refine(CD.o _ R (l.fc h6 r6 Q)).mono ?_;rintro e w4 ⟨rfl,hb⟩;replace l:=l.below hb;replace m:=m.keep hb;replace r:=dW r hb;refine hK.out _ _ (I.o _ l) (λhHeld=>?_)
   try dsimp only[Act.put,List.setIfInBounds_toArray,List.set_cons_zero,List.set_cons_succ]
   refine aM 10 λK hK=>?_;go_simp;refine(CA.o _).mono ?_;rintro e w5 ⟨rfl,hb⟩;replace l:=l.below hb;replace m:=m.keep hb;replace r:=dW r hb;refine hK.out _ _ (I.o _ l) (λhHeld=>?_)
   try dsimp only[Act.put,List.setIfInBounds_toArray,List.set_cons_zero,List.set_cons_succ]
   refine oA 11 ?_;have hc:=m.cell (Qh.o);have hf:=m.frozen (k);refine aM 12 λK hK=>?_;go_simp;replace l:=l.ax (k) (nU xs j u k:Int);replace m:=m.ax (k) (nU xs j u k);replace r:=r.setCell (p:=⟨_,k,none⟩) (Q) (nU xs j u k:Int);refine hK.out _ _ (I.o _ l) (λhHeld=>?_)
   try dsimp only[Act.put,List.setIfInBounds_toArray,List.set_cons_zero,List.set_cons_succ]
   refine aZ ?_
   go_wp2
   rw[YI.o]at m;go_roundw
   case rel=>exact⟨k+1,om,by go_num,J.trans l,m,r⟩
   case measure=>exact e6
  .rw[mY Y]at hO;have e:k=j.length:=om;subst e;have HO:=ae hO;have o1:=J.own (ho.at (w':=W)) (ho.aS (cs:=ints j) X ak);have⟨p0,p1⟩:=di mO;have⟨q0,q1⟩:=di mR;have f0:=mR.frozen 0;have f1:=mR.frozen 1;have l1:=o1.aS mR ak;have l2:=HO.o.aS mR ak
   go_wp2
   have k3:=mR.cY (g,1,1) (.slice G j j.length);have B3:=cM P (p:=w.1.size+1+1+1) om (g,1,1) (.slice G j j.length);have o3:=o1.cU l1 (g,1,1) (.slice G j j.length);have o4:=HO.o.cU l2 (g,1,1) (.slice G j j.length);have⟨q0,q1⟩:=di k3;refine a8 (v:=.tuple #[.agg #[(g,1,1),.slice G j j.length],au]) (by simp[results,results158,go_sem,q0,q1]) rfl ?_;exact nE.yes om om aG (by rw[fZ];omega) o3 o4 B3 _ (by rw[fZ];rfl)
end
end
variable{g:Nat}{T:TypeId}{v0 v1 v3 v4 v5:Value}{W w' wr:World}{zs:List Int}
def xD{w:ay}{b:Value}(h:aB w g T #[v0,v1,b,v3,v4,v5]):
  w.cell? (g,0)=some v0/\w.cell? (g,1)=some v1/\w.cell? (g,2)=some b/\w.cell? (g,3)=some v3/\w.cell? (g,4)=some v4/\w.cell? (g,5)=some v5:=
 ⟨h.cell 0,h.cell 1,h.cell 2,h.cell 3,h.cell 4,h.cell 5⟩
def World.uD(w:ay)(g:Nat)(v0 b e v3 v4 j:Value):World:=(((((w.setCell (g,0) v0).setCell (g,1) b).setCell (g,2) e).setCell (g,3) v3).setCell (g,4) v4).setCell (g,5) j
def aB.uD{w:ay}{a b c d e f:Value}(h:aB w g T #[a,b,c,d,e,f])(v0 j l v3 v4 m:Value):
  aB ((((((w.setCell (g,0) v0).setCell (g,1) j).setCell (g,2) l).setCell (g,3) v3).setCell (g,4) v4).setCell (g,5) m) g T #[v0,j,l,v3,v4,m]:=
 (((((h.ax 0 v0).ax 1 j).ax 2 l).ax 3 v3).ax 4 v4).ax 5 m
def kY{w:ay}{n p:Nat}(h:Below n w w')(hp:n<=p)(v0 b e v3 v4 j:Value):
  Below n w ((((((w'.setCell (p,0) v0).setCell (p,1) b).setCell (p,2) e).setCell (p,3) v3).setCell (p,4) v4).setCell (p,5) j):=
 (((((h.setCell (p:=⟨p,0,none⟩) hp v0).setCell (p:=⟨p,1,none⟩) hp b).setCell (p:=⟨p,2,none⟩) hp e).setCell (p:=⟨p,3,none⟩) hp v3).setCell (p:=⟨p,4,none⟩) hp v4).setCell (p:=⟨p,5,none⟩) hp j
def iH{w:ay}{p:Nat}(v0 b e v3 v4 j:Value):
  h4 [p] w ((((((w.setCell (p,0) v0).setCell (p,1) b).setCell (p,2) e).setCell (p,3) v3).setCell (p,4) v4).setCell (p,5) j):=
 have m:p∈[p]:=aG
 ((((((h4.refl [p] w).ax m 0 v0).ax m 1 b).ax m 2 e).ax m 3 v3).ax m 4 v4).ax m 5 j
def h4.gD{p k:Nat}(h:h4 [p] W wr)(hb:Own W k T zs)(b:k≠p):Own wr k T zs:=h.own hb (by simpa using b)
def xE(zs xs b e j l ps gs:av):Bool:=eb zs xs b e j l&&aJ ps gs&&decide (ps=b)
def U5(w:ay)(zs xs r u y z:av)(E:Int)(e:Ending)(w':ay):Prop:=
 ∃A c B d C D F d' b j l m,e=.returned (.tuple #[.agg #[.slice A zs c,.slice B xs d,.slice C r D,.slice F u d',.slice b y j,.slice l z m],E])/\
  az w' w.1.size 3 A c zs/\az w' w.1.size 65 B d xs/\az w' w.1.size 3 C D r/\az w' w.1.size 65 F d' u/\az w' w.1.size 3 b j y/\az w' w.1.size 65 l m z/\Below w.1.size w w'
def Fq(A B C D E F G H:cD)(c d c' d' e' f' g' h':Nat)(zs xs ts ys y m ps gs:av)(w:ay)(hd:xs.length<=d)(rg:y.length<=1000000)(h1:Rd w A zs)(h2:Rd w B xs)(h3:Rd w C ts)(h5:Rd w E y)(h6:Rd w F m)(h7:Rd w G ps)(h8:Rd w H gs)(hx:Hx (∀z∈xs,bo z))(hv:Hx (∀z∈m,bo z))(hg:Hx (∀z∈gs,bo z))(hr:Hx (xE zs xs ts ys y m ps gs=true)):
  () 105 #[.agg #[.slice A zs c,.slice B xs d],.agg #[.slice C ts c',.slice D ys d'],.agg #[.slice E y e',.slice F m f'],.agg #[.slice G ps g',.slice H gs h']] w (U5 w zs (eC gs m) ts gs y (j1 m.length xs gs) 0):=by
 obtain⟨Q1,Q2,Q3⟩:Hx (eb zs xs ts ys y m=true)/\Hx (aJ ps gs=true)/\Hx (ps=ts):=by
  have:=hr.o;simp only[xE,bW,cu]at this;exact⟨this.1.1,this.1.2,this.2⟩
 obtain⟨M,N,rfl,rfl,vm,Es,vg,Mb,zW,hM,hN,P0,-,-,-⟩:=uC Q1.o;have EC:gs.length=M:=by
  have:=((bf _ _).1 Q2.o).2;rw[Q3.o]at this;simp[aN]at this;omega
 have X:=Q3.o;subst X;have q3:=ae vm;have Fp:=ae vg;have Qi:=ae EC;have hgM:gs.length<=1024:=om;have hvN:m.length<=1024:=om;have Iy:0<m.length:=om;have EW:0<xs.length:=by rw[vm];exact vT Mb zW
 obtain⟨bx,ox,x0,rfl,-,-,-⟩:=h2.get (k:=0) EW;have T:Hx ((eC gs m).length=xs.length):=ae (by rw[qE,EC,vg,vm]);clear vm Es vg EC Q3;have kW:=aB.new w 28 #[(A,2,c),.slice (some ⟨bx,ox,none⟩) xs d];have kB:=aB.fx (w.alloc (.cells #[(A,2,c),.slice (some ⟨bx,ox,none⟩) xs d] 28)) 28 #[(C,1,c'),.slice D ys d'] (n:=w.1.size+1) aG;have kX:=aB.fx ((w.alloc (.cells #[(A,2,c),.slice (some ⟨bx,ox,none⟩) xs d] 28)).alloc (.cells #[(C,1,c'),.slice D ys d'] 28)) 28 #[.slice E y e',.slice F m f'] (n:=w.1.size+1+1) aG;have kG:=aB.fx (((w.alloc (.cells #[(A,2,c),.slice (some ⟨bx,ox,none⟩) xs d] 28)).alloc (.cells #[(C,1,c'),.slice D ys d'] 28)).alloc (.cells #[.slice E y e',.slice F m f'] 28)) 28 #[(G,1,g'),.slice H gs h'] (n:=w.1.size+1+1+1) aG;have kR:=aB.fx ((((w.alloc (.cells #[(A,2,c),.slice (some ⟨bx,ox,none⟩) xs d] 28)).alloc (.cells #[(C,1,c'),.slice D ys d'] 28)).alloc (.cells #[.slice E y e',.slice F m f'] 28)).alloc (.cells #[(G,1,g'),.slice H gs h'] 28)) 201 #[(),(),(),(),(),()] (n:=w.1.size+1+1+1+1) aG
 go_in
 go_wp2_with fail
 refine(Fl A (some ⟨bx,ox,none⟩) C D E F c d c' d' e' f' [(M:Int),(N:Int)] xs [(M:Int)] ys y m _ aG aG rg h1.at h3.at h5.at).mono ?_;rintro e w1 ⟨rfl,hb⟩;have Ix:=aj.mk hb;clear hb;rw[Q1.o];obtain⟨p0,p1⟩:=di (kG.at (w':=w1))
 go_wp2_with fail
 refine(fW G H g' h' [(M:Int)] gs _ aG h7.at).mono ?_;rintro e w2 ⟨rfl,hb⟩;have pw2:=aj.mk hb;clear hb;rw[Q2.o];clear p0 p1;obtain⟨p0,p1⟩:=di (kG.at (w':=w2));obtain⟨q0,Y⟩:=di (kB.at (w':=w2))
 go_wp2_with fail
 refine(pn G C g' c' [(M:Int)] [(M:Int)] _ aG aG h7.at h3.at).mono ?_;rintro e w3 ⟨rfl,hb⟩;have MF:=aj.mk hb;clear hb;rw[show decide (([(M:Int)]:av)=[(M:Int)])=true from ef rfl];clear p0 p1 q0 Y;have vf:=(kR.at (w':=w3)).lt
 go_upto_region 3 with fail
 go_cut [10] (λs10 wx=>∃Z a b c d e f:Nat,s10=.pointer Z/\aB wx Z 201 #[(a,2,2),.slice b xs xs.length,(c,1,1),.slice d gs gs.length,.slice (some ⟨e,0,none⟩) y y.length,.slice f m m.length]/\
  Own wx a 3 [(M:Int),(N:Int)]/\Own wx b 65 xs/\Own wx c 3 [(M:Int)]/\Own wx d 65 gs/\Own wx e 3 y/\Own wx f 65 m/\w3.1.size<=a/\w3.1.size<=b/\w3.1.size<=c/\w3.1.size<=d/\w3.1.size<=e/\w3.1.size<=f/\w3.1.size<=Z/\b<d/\d<f/\Below w3.1.size w3 wx)
 case first=>
  have C1:=ae λ(w':ay) (ha:Rd w' A [(M:Int),(N:Int)]) (hb:Rd w' (some ⟨bx,ox,none⟩) xs)=>nF A (some ⟨bx,ox,none⟩) c d [(M:Int),(N:Int)] xs w' aG om ha hb;have C2:=ae λ(w':ay) (ha:Rd w' G [(M:Int)]) (hb:Rd w' H gs)=>nF G H g' h' [(M:Int)] gs w' aG om ha hb;have C3:=ae λ(w':ay) (ha:Rd w' E y) (hb:Rd w' F m)=>nF E F e' f' y m w' om om ha hb;have r:Hx (∀w':World,Below (w3).1.size (w3) w'->w'.cell? (w.1.size,0)=some (.slice A 2 c)/\w'.cell? (w.1.size,1)=some (.slice (some ⟨bx,ox,none⟩) xs d)/\w'.cell? (w.1.size+1+1,0)=some (.slice E y e')/\w'.cell? (w.1.size+1+1,1)=some (.slice F m f')/\w'.cell? (w.1.size+1+1+1,0)=some (.slice G 1 g')/\w'.cell? (w.1.size+1+1+1,1)=some (.slice H gs h')):=ae (λw' I=>⟨(kW.at.keep I).cell 0,(kW.at.keep I).cell 1,(kX.at.keep I).cell 0,(kX.at.keep I).cell 1,(kG.at.keep I).cell 0,(kG.at.keep I).cell 1⟩);refine wp_region_held_drew (S:=λw'=>w'.cell? (w.1.size,0)=some (.slice A 2 c)/\w'.cell? (w.1.size,1)=some (.slice (some ⟨bx,ox,none⟩) xs d)/\w'.cell? (w.1.size+1+1,0)=some (.slice E y e')/\w'.cell? (w.1.size+1+1,1)=some (.slice F m f')/\w'.cell? (w.1.size+1+1+1,0)=some (.slice G 1 g')/\w'.cell? (w.1.size+1+1+1,1)=some (.slice H gs h')) aq (r.o _ (kL)) (λ_=>?_);refine wI (λwD pwD=>?_);have hHeld:=r.o wD (kL);refine oA 0 ?_;refine oA 2 ?_;refine oA 4 ?_;refine o7 1 7 (λK hK=>?_) (λK hK=>?_)
  .go_simp;refine(C1.o _ h1.at h2.at).mono ?_;rintro e wA ⟨a,b,rfl,la,lb,oa,ob,hb⟩;dsimp only;have pwA:=aj.mk hb;clear hb;refine hK.out _ _ (r.o _ (kL)) (λhHeld=>?_)
   try dsimp only[Act.put,List.setIfInBounds_toArray,List.set_cons_zero,List.set_cons_succ]
   refine o7 3 7 (λK hK=>?_) (λK hK=>?_)
   .go_simp;refine(C2.o _ h7.at h8.at).mono ?_;rintro e wB ⟨c2,U,rfl,lc,ld,R,O,hb⟩;dsimp only;have YJ:=aj.mk hb;clear hb;refine hK.out _ _ (r.o _ (kL)) (λhHeld=>?_)
    try dsimp only[Act.put,List.setIfInBounds_toArray,List.set_cons_zero,List.set_cons_succ]
    refine o7 5 7 (λK hK=>?_) (λK hK=>?_)
    focus
     go_simp;refine(C3.o _ h5.at h6.at).mono ?_;rintro e wC ⟨L,f2,rfl,le,lf,Q,of,hb⟩;dsimp only;have YK:=aj.mk hb;clear hb;refine hK.out _ _ (r.o _ (kL)) (λhHeld=>?_)
     try dsimp only[Act.put,List.setIfInBounds_toArray,List.set_cons_zero,List.set_cons_succ]
     refine oA 6 ?_;refine aM 7 λK hK=>?_;go_simp;refine zF hK (λ_=>?_) (r.o _ (kL));refine lT (λu1 su l YL=>?_);have hHeld:=r.o u1 (kL)
    rotate_left
    focus
     go_simp;refine zF hK (λ_=>?_) (r.o _ (kL));refine lT (λu1 su l YL=>?_);have hHeld:=r.o u1 (kL);refine aM 5 λK hK=>?_;go_simp;refine(C3.o _ h5.at h6.at).mono ?_;rintro e wC ⟨L,f2,rfl,le,lf,Q,of,hb⟩;dsimp only;have YK:=aj.mk hb;clear hb;refine hK.out _ _ (r.o _ (kL)) (λhHeld=>?_)
     try dsimp only[Act.put,List.setIfInBounds_toArray,List.set_cons_zero,List.set_cons_succ]
     refine oA 6 ?_
    all_goals
     refine aM 8 λK hK=>?_;rename World=>wN;obtain⟨q0,Y,q2,X,q4,q5⟩:=xD (l.at (w':=wN));have y0:=(l.at (w':=wN)).frozen 0;have y1:=(l.at (w':=wN)).frozen 1;have y2:=(l.at (w':=wN)).frozen 2;have y3:=(l.at (w':=wN)).frozen 3;have y4:=(l.at (w':=wN)).frozen 4;have y5:=(l.at (w':=wN)).frozen 5
     skip
     go_simp;refine hK.out _ _ (r.o _ (kY (a7 w3 wN) ai _ _ _ _ _ _)) (λhHeld=>?_)
     try dsimp only[Act.put,List.setIfInBounds_toArray,List.set_cons_zero,List.set_cons_succ]
     have n1:=bu ob.lt (aO (ai (w:=wA)) ld);have n2:=bu O.lt (aO (ai (w:=wB)) lf);refine aZ ?_
     go_wp2_with fail
     go_meet
     exact⟨_,a,b,c2,U,L,f2,rfl,(l.at (w':=wN)).uD _ _ _ _ _ _,(iH _ _ _ _ _ _).gD (oa.at (w':=wN)) ((oa.at (w':=wN)).aS (l.at (w':=wN)) ak),(iH _ _ _ _ _ _).gD (ob.at (w':=wN)) ((ob.at (w':=wN)).aS (l.at (w':=wN)) ak),(iH _ _ _ _ _ _).gD (R.at (w':=wN)) ((R.at (w':=wN)).aS (l.at (w':=wN)) ak),(iH _ _ _ _ _ _).gD (O.at (w':=wN)) ((O.at (w':=wN)).aS (l.at (w':=wN)) ak),(iH _ _ _ _ _ _).gD (Q.at (w':=wN)) ((Q.at (w':=wN)).aS (l.at (w':=wN)) ak),(iH _ _ _ _ _ _).gD (of.at (w':=wN)) ((of.at (w':=wN)).aS (l.at (w':=wN)) ak),aO ai la,aO ai lb,aO ai lc,aO ai ld,aO ai le,aO ai lf,ai,n1,n2,kY (a7 w3 wN) ai _ _ _ _ _ _⟩
   .go_simp;refine zF hK (λ_=>?_) (r.o _ (kL));refine lT (λu1 su l YL=>?_);have hHeld:=r.o u1 (kL);refine aM 3 λK hK=>?_;go_simp;refine(C2.o _ h7.at h8.at).mono ?_;rintro e wB ⟨c2,U,rfl,lc,ld,R,O,hb⟩;dsimp only;have YJ:=aj.mk hb;clear hb;refine hK.out _ _ (r.o _ (kL)) (λhHeld=>?_)
    try dsimp only[Act.put,List.setIfInBounds_toArray,List.set_cons_zero,List.set_cons_succ]
    refine aM 5 λK hK=>?_;go_simp;refine(C3.o _ h5.at h6.at).mono ?_;rintro e wC ⟨L,f2,rfl,le,lf,Q,of,hb⟩;dsimp only;have YK:=aj.mk hb;clear hb;refine hK.out _ _ (r.o _ (kL)) (λhHeld=>?_)
    try dsimp only[Act.put,List.setIfInBounds_toArray,List.set_cons_zero,List.set_cons_succ]
    refine oA 6 ?_;refine aM 8 λK hK=>?_;rename World=>wN;obtain⟨q0,Y,q2,X,q4,q5⟩:=xD (l.at (w':=wN));have y0:=(l.at (w':=wN)).frozen 0;have y1:=(l.at (w':=wN)).frozen 1;have y2:=(l.at (w':=wN)).frozen 2;have y3:=(l.at (w':=wN)).frozen 3;have y4:=(l.at (w':=wN)).frozen 4;have y5:=(l.at (w':=wN)).frozen 5
    skip
    go_simp;refine hK.out _ _ (r.o _ (kY (a7 w3 wN) ai _ _ _ _ _ _)) (λhHeld=>?_)
    try dsimp only[Act.put,List.setIfInBounds_toArray,List.set_cons_zero,List.set_cons_succ]
    have n1:=bu ob.lt (aO (ai (w:=wA)) ld);have n2:=bu O.lt (aO (ai (w:=wB)) lf);refine aZ ?_
    go_wp2_with fail
    go_meet
    exact⟨_,a,b,c2,U,L,f2,rfl,(l.at (w':=wN)).uD _ _ _ _ _ _,(iH _ _ _ _ _ _).gD (oa.at (w':=wN)) ((oa.at (w':=wN)).aS (l.at (w':=wN)) ak),(iH _ _ _ _ _ _).gD (ob.at (w':=wN)) ((ob.at (w':=wN)).aS (l.at (w':=wN)) ak),(iH _ _ _ _ _ _).gD (R.at (w':=wN)) ((R.at (w':=wN)).aS (l.at (w':=wN)) ak),(iH _ _ _ _ _ _).gD (O.at (w':=wN)) ((O.at (w':=wN)).aS (l.at (w':=wN)) ak),(iH _ _ _ _ _ _).gD (Q.at (w':=wN)) ((Q.at (w':=wN)).aS (l.at (w':=wN)) ak),(iH _ _ _ _ _ _).gD (of.at (w':=wN)) ((of.at (w':=wN)).aS (l.at (w':=wN)) ak),aO ai la,aO ai lb,aO ai lc,aO ai ld,aO ai le,aO ai lf,ai,n1,n2,kY (a7 w3 wN) ai _ _ _ _ _ _⟩
  .go_simp;refine zF hK (λ_=>?_) (r.o _ (kL));refine lT (λu1 su l YL=>?_);have hHeld:=r.o u1 (kL);refine aM 1 λK hK=>?_;go_simp;refine(C1.o _ h1.at h2.at).mono ?_;rintro e wA ⟨a,b,rfl,la,lb,oa,ob,hb⟩;dsimp only;have pwA:=aj.mk hb;clear hb;refine hK.out _ _ (r.o _ (kL)) (λhHeld=>?_)
   try dsimp only[Act.put,List.setIfInBounds_toArray,List.set_cons_zero,List.set_cons_succ]
   refine aM 3 λK hK=>?_;go_simp;refine(C2.o _ h7.at h8.at).mono ?_;rintro e wB ⟨c2,U,rfl,lc,ld,R,O,hb⟩;dsimp only;have YJ:=aj.mk hb;clear hb;refine hK.out _ _ (r.o _ (kL)) (λhHeld=>?_)
   try dsimp only[Act.put,List.setIfInBounds_toArray,List.set_cons_zero,List.set_cons_succ]
   refine aM 5 λK hK=>?_;go_simp;refine(C3.o _ h5.at h6.at).mono ?_;rintro e wC ⟨L,f2,rfl,le,lf,Q,of,hb⟩;dsimp only;have YK:=aj.mk hb;clear hb;refine hK.out _ _ (r.o _ (kL)) (λhHeld=>?_)
   try dsimp only[Act.put,List.setIfInBounds_toArray,List.set_cons_zero,List.set_cons_succ]
   refine oA 6 ?_;refine aM 8 λK hK=>?_;rename World=>wN;obtain⟨q0,Y,q2,X,q4,q5⟩:=xD (l.at (w':=wN));have y0:=(l.at (w':=wN)).frozen 0;have y1:=(l.at (w':=wN)).frozen 1;have y2:=(l.at (w':=wN)).frozen 2;have y3:=(l.at (w':=wN)).frozen 3;have y4:=(l.at (w':=wN)).frozen 4;have y5:=(l.at (w':=wN)).frozen 5
   skip
   go_simp;refine hK.out _ _ (r.o _ (kY (a7 w3 wN) ai _ _ _ _ _ _)) (λhHeld=>?_)
   try dsimp only[Act.put,List.setIfInBounds_toArray,List.set_cons_zero,List.set_cons_succ]
   have n1:=bu ob.lt (aO (ai (w:=wA)) ld);have n2:=bu O.lt (aO (ai (w:=wB)) lf);refine aZ ?_
   go_wp2_with fail
   go_meet
   exact⟨_,a,b,c2,U,L,f2,rfl,(l.at (w':=wN)).uD _ _ _ _ _ _,(iH _ _ _ _ _ _).gD (oa.at (w':=wN)) ((oa.at (w':=wN)).aS (l.at (w':=wN)) ak),(iH _ _ _ _ _ _).gD (ob.at (w':=wN)) ((ob.at (w':=wN)).aS (l.at (w':=wN)) ak),(iH _ _ _ _ _ _).gD (R.at (w':=wN)) ((R.at (w':=wN)).aS (l.at (w':=wN)) ak),(iH _ _ _ _ _ _).gD (O.at (w':=wN)) ((O.at (w':=wN)).aS (l.at (w':=wN)) ak),(iH _ _ _ _ _ _).gD (Q.at (w':=wN)) ((Q.at (w':=wN)).aS (l.at (w':=wN)) ak),(iH _ _ _ _ _ _).gD (of.at (w':=wN)) ((of.at (w':=wN)).aS (l.at (w':=wN)) ak),aO ai la,aO ai lb,aO ai lc,aO ai ld,aO ai le,aO ai lf,ai,n1,n2,kY (a7 w3 wN) ai _ _ _ _ _ _⟩
 case rest=>
  obtain⟨Z,a,b,c2,U,L,f,rfl,kS,oa,ob,R,O,Q,of,la,lb,lc,ld,le,lf,l0,n1,n2,hb⟩:=hcut;have pwc:=aj.mk hb;clear hb;have wW:=λty=>o9 (P:=prog) 26 65 ty underlying26 aq of Iy m.length;have YM:b≠f:=om;have n0:f≠Z:=of.aS kS ak;obtain⟨q0,Y,q2,X,q4,q5⟩:=xD kS;have U6:=(jy (bs:=[f]) (g:=f) aG (List.replicate m.length au) 0 (h4.refl [f] wc)).al (kG.at (w':=wc)) bY;obtain⟨t0,t1⟩:=di U6
  go_wp2_with fail
  clear t0 t1 q0 Y q2 X q4 q5 wW;have u:=jy (bs:=[f]) (g:=f) aG (List.replicate m.length au) 0 (h4.refl [f] wc);have ofW:=of.clear;have aa2:=eP (n:=w.1.size) (g:=f) om (List.replicate m.length au) 0 (a7 w wc);generalize wc.setCells f 0 (List.replicate m.length au)=W at*;have U7:∀g∈[b,f],w.1.size<=g:=by intro g hg;simp at hg;omega
  have MG:∀g∈[f],w.1.size<=g:=by intro g hg;simp at hg;omega
  have nf1:f≠a:=λe=>by subst e;exact(oa.aS (cs:=ints m) of ak) rfl
  have nf2:f≠c2:=λe=>by subst e;exact(R.aS (cs:=ints m) of ak) rfl
  have nf3:f≠L:=λe=>by subst e;exact(Q.aS (cs:=ints m) of ak) rfl
  have nb1:b≠a:=λe=>by subst e;exact(oa.aS (cs:=ints xs) ob ak) rfl
  have nb2:b≠c2:=λe=>by subst e;exact(R.aS (cs:=ints xs) ob ak) rfl
  have nb3:b≠L:=λe=>by subst e;exact(Q.aS (cs:=ints xs) ob ak) rfl
  have nb0:b≠Z:=ob.aS kS ak;have oaW:=u.own oa (by simpa using nf1.symm);have obW:=u.own ob (by simpa using YM);have ocW:=u.own R (by simpa using nf2.symm);have odW:=u.own O bY;have oeW:=u.own Q (by simpa using nf3.symm);have kSW:=u.al kS (by simpa using n0.symm);have kWW:=u.al (kW.at (w':=wc)) bY;have kXW:=u.al (kX.at (w':=wc)) bY;have kGW:=u.al (kG.at (w':=wc)) bY;have kRW:=u.al (kR.at (w':=wc)) bY;have h1W:=u.fc h1 (h1.at (w':=wc)) MG;have h2W:=u.fc h2 (h2.at (w':=wc)) MG;have h6W:=u.fc h6 (h6.at (w':=wc)) MG;have h8W:=u.fc h8 (h8.at (w':=wc)) MG;rw[<-Ad m.length xs gs]at ofW;go_loopw [49] (λi wr=>∃k:Nat,k<=gs.length/\i=.int .i64 k/\h4 [b,f] W wr/\Own wr b 65 (fm (λp=>(eC gs m).take p) xs (k*N))/\Own wr f 65 (eU m.length xs gs k 0)/\Below w.1.size w wr) (λi _=>gs.length-(intOf i).toNat)
  case atStart=>exact⟨0,aT _,rfl,h4.refl _ _,by simpa[fm]using obW,ofW,aa2⟩
  case round=>
   obtain⟨k,hk,rfl,hO,o1,o2,WT⟩:=hrel;have YN:=hO.al kSW bY;have J:=hO.al kRW bY;by_cases bK:k<gs.length
   .obtain⟨S,hS⟩:∃S,Hx (k*N=S):=⟨_,ae rfl⟩;rw[hS.o]at o1;have ME:k<M:=by rw[<-Qi.o];exact bK
    have acs:S+N<=xs.length:=by rw[q3.o,<-hS.o,<-na];exact hZ _ ME
    have Qj:=hO.al kWW bY;have kXr:=hO.al kXW bY;have r1:=hO.fc h1 h1W U7;have YO:=hO.own oaW bY;obtain⟨b8,o8,g,rfl,hb8,MH,YP⟩:=(hO.fc h8 h8W U7).get bK;have MI:=hg.o g (aC YP.o);have CL1:=ae λ(w':ay) (h:Rd w' A [(M:Int),(N:Int)])=>tF A bx ox c d M N k S xs w' hd hM hN zW q3 P0 ME hS h;have CL2:=ae λ(w':ay) (h:Rd w' a [(M:Int),(N:Int)])=>tF a b 0 2 xs.length M N k S xs w' (an _) hM hN zW q3 P0 ME hS h;rw[bX]at CL2
    go_wp2_with fail
    have r:Hx (∀w':World,Below (wr).1.size (wr) w'->w'.cell? (w.1.size,0)=some (.slice A 2 c)/\w'.cell? (w.1.size,1)=some (.slice (some ⟨bx,ox,none⟩) xs d)/\w'.cell? (Z,0)=some (.slice a 2 2)/\w'.cell? (Z,1)=some (.slice b xs xs.length)):=λw' I=>⟨(Qj.keep I).cell 0,(Qj.keep I).cell 1,(YN.keep I).cell 0,(YN.keep I).cell 1⟩;refine wp_region_held_drew (S:=λw'=>w'.cell? (w.1.size,0)=some (.slice A 2 c)/\w'.cell? (w.1.size,1)=some (.slice (some ⟨bx,ox,none⟩) xs d)/\w'.cell? (Z,0)=some (.slice a 2 2)/\w'.cell? (Z,1)=some (.slice b xs xs.length)) aq (r.o _ (kL)) (λ_=>?_);refine wI (λwD pwD=>?_);have hHeld:=r.o wD (kL);refine oA 0 ?_;refine oA 1 ?_;refine oA 3 ?_;refine oA 4 ?_;refine oA 5 ?_;refine aM 2 λK hK=>?_;go_simp;refine(CL1.o _ r1.at).mono ?_;rintro e wA ⟨rfl,hb⟩;dsimp only;have pwA:=aj.mk hb;clear hb;refine hK.out _ _ (r.o _ (kL)) (λhHeld=>?_)
    try dsimp only[Act.put,List.setIfInBounds_toArray,List.set_cons_zero,List.set_cons_succ]
    refine aM 6 λK hK=>?_;go_simp;refine(CL2.o _ YO.rd.at).mono ?_;rintro e wB ⟨rfl,hb⟩;dsimp only;have YJ:=aj.mk hb;clear hb;refine hK.out _ _ (r.o _ (kL)) (λhHeld=>?_)
    try dsimp only[Act.put,List.setIfInBounds_toArray,List.set_cons_zero,List.set_cons_succ]
    refine oA 7 ?_;refine oA 8 ?_;refine aZ ?_;clear hHeld r;have o1B:=o1.at (w':=wB);have o2B:=o2.at (w':=wB);have hOB:=hO.below (a7 wr wB);have aa3:=dW WT (a7 wr wB);obtain⟨p0,p1⟩:=di (kXr.at (w':=wB))
    go_wp2_with fail
    clear p0 p1;go_loopw [64] (λi wq=>∃j:Nat,j<=m.length/\i=.int .i64 j/\h4 [b,f] W wq/\Own wq b 65 (fm (λp=>(eC gs m).take p) xs (S+j))/\Own wq f 65 (eU m.length xs gs k j)/\Below w.1.size w wq) (λi _=>m.length-(intOf i).toNat)
    case atStart=>exact⟨0,aT _,rfl,hOB,o1B,o2B,aa3⟩
    case round=>
     obtain⟨j,hj,rfl,YQ,m1,m2,hbj⟩:=hrel;by_cases U8:j<m.length
     .obtain⟨b6,o6,v,rfl,hb6,XY,hvj⟩:=(YQ.fc h6 h6W U7).get U8;have hvi:=hv.o v (aC hvj.o);have hjN:j<N:=by rw[<-Fp.o];exact U8
      obtain⟨x,V⟩:∃x,Hx (xs[S+j]?=some x):=⟨_,ae (bc om)⟩;have hxi:=hx.o x (aC V.o);have HXK:Hx (xs[k*m.length+j]?=some x):=ae (by rw[Fp.o,hS.o];exact V.o);have xF:Hx (((eC gs m).take (S+j)).length=S+j):=ae (by rw[bB,T.o];omega);have HBA:Hx ((eC gs m).take (S+j+1)=(eC gs m).take (S+j)++[ch g v]):=Ae (by rw[<-hS.o,<-Fp.o];exact MC YP.o hvj.o);have u1:=m1.cell (mV (f:=λp=>(eC gs m).take p) xF V.o);have u2:=m1.frozen (S+j);have YR:=YQ.ax (g:=b) aG (S+j) (ch g v:Int);have M1:=ae (m1.ax (S+j) (ch g v));rw[kF (f:=λp=>(eC gs m).take p) xF.o HBA.o V.o]at M1;have M2:=m2.a9 (p:=⟨b,S+j,none⟩) (by exact YM.symm) (ch g v:Int);have B2:=hbj.setCell (p:=⟨b,S+j,none⟩) (by show w.1.size<=b;omega) (ch g v:Int);have t5:=(YR.al kSW bY).cell 5;have u3:=M2.cell (Fo (k:=k) U8);have u4:=M2.frozen j;have u5:(wr.setCell (b,S+j) (ch g v:Int)).cell? (bx,ox+S+j)=some (.int .i64 x):=by rw[nl];exact(YR.fc h2 h2W U7).all V.o
      have CM:=ae (pj (pa x g (wr.setCell (b,S+j) (ch g v:Int)).drew hxi MI));have CA:=ae (pj (kM (j5 m.length xs gs j k) (ch x g) (wr.setCell (b,S+j) (ch g v:Int)).drew (Fm _ _ _ _ _) (gG hxi MI)));have HXS:=ae (Dg U8 HXK YP.o);have M3:=M1.o.a9 (p:=⟨f,j,none⟩) (by exact YM) (cA (j5 m.length xs gs j k) (ch x g):Int);have M4:=M2.ax j (cA (j5 m.length xs gs j k) (ch x g));rw[HXS.o]at M4;have hO4:=YR.ax (g:=f) aG j (cA (j5 m.length xs gs j k) (ch x g):Int);have B4:=B2.setCell (p:=⟨f,j,none⟩) (by show w.1.size<=f;omega) (cA (j5 m.length xs gs j k) (ch x g):Int)
      go_wp2_with fail
      refine(pa g v wr MI hvi).mono ?_;rintro e w' ⟨rfl,rfl⟩
      go_upto_region 13 with fail
      clear u1 u2;generalize wr.setCell (b,S+j) (ch g v:Int)=wz at*;refine wp_region_still_tail 17 aq aq ?_;change wpStill _ _ (wz).drew _ _ _;simp only[fh,dK,g4,eT]
      iterate 15 still_step
      still_call CM
      still_call CA
      repeat still_step
      refine fJ ?_
      go_wp2_with fail
      go_roundw
      case rel=>exact⟨j+1,om,by go_num,hO4.drew,M3.drew,M4.drew,B4.drew⟩
      case measure=>exact e6
     .have e:j=m.length:=om;subst e;rw[Dh]at m2;have eS:S+m.length=(k+1)*N:=by rw[Fp.o,na,hS.o]
      rw[eS]at m1;clear eS
      go_wp2_with fail
      go_roundw
      case rel=>exact⟨k+1,om,by go_num,YQ,m1,m2,hbj⟩
      case measure=>exact e6
   .have e:k=gs.length:=om;subst e;rw[Di]at o2;have eW:fm (λp=>(eC gs m).take p) xs (gs.length*N)=eC gs m:=by
     rw[Qi.o,<-q3.o,fm,rO,fG,<-T.o,dJ]
    rw[eW]at o1;have YS:Hx ((j1 m.length xs gs).length=m.length):=ae (by simp[j1]);have YO:=hO.own oaW bY;have ocr:=hO.own ocW bY;have odr:=hO.own odW bY;have oer:=hO.own oeW bY;clear eW;obtain⟨q0,Y,q2,X,q4,q5⟩:=xD YN;obtain⟨t0,t1,t2,t3,t4,t5⟩:=xD J;have y0:=J.frozen 0;have y1:=J.frozen 1;have y2:=J.frozen 2;have y3:=J.frozen 3;have y4:=J.frozen 4;have y5:=J.frozen 5
    go_wp2_with fail
    have k3:=J.uD (a,2,2) (.slice b xs xs.length) (c2,1,1) (.slice U gs gs.length) (.slice L y y.length) (.slice f m m.length);have B3:=kY WT (p:=w.1.size+1+1+1+1) om (a,2,2) (.slice b xs xs.length) (c2,1,1) (.slice U gs gs.length) (.slice L y y.length) (.slice f m m.length);have X3:=iH (w:=wr) (p:=w.1.size+1+1+1+1) (a,2,2) (.slice b xs xs.length) (c2,1,1) (.slice U gs gs.length) (.slice L y y.length) (.slice f m m.length);clear q0 Y q2 X q4 q5 t0 t1 t2 t3 t4 t5;obtain⟨q0,Y,q2,X,q4,q5⟩:=xD k3;refine a8 (v:=.tuple #[.agg #[(a,2,2),.slice b xs xs.length,(c2,1,1),.slice U gs gs.length,.slice L y y.length,.slice f m m.length],au]) (by simp[results,results105,go_sem,q0,Y,q2,X,q4,q5]) rfl ?_;refine⟨some ⟨a,0,none⟩,2,some ⟨b,0,none⟩,xs.length,some ⟨c2,0,none⟩,1,some ⟨U,0,none⟩,gs.length,some ⟨L,0,none⟩,y.length,some ⟨f,0,none⟩,m.length,by rw[T.o,YS.o];rfl,az.gz (X3.gD YO om) om aG,?_,az.gz (X3.gD ocr om) om aG,az.gz (X3.gD odr om) om om,az.gz (X3.gD oer om) om om,?_,B3⟩
    .have:=az.gz (B:=w.1.size) (X3.gD o1 om) om (by rw[T.o];omega);rw[T.o]at this;exact this
    .have:=az.gz (B:=w.1.size) (X3.gD o2 om) om (by rw[YS.o];omega);rw[YS.o]at this;exact this
variable{A B:Option Addr}{c d:Nat}

variable{E y1:Int}
structure mz(y1 y0 u d q r:Int):Prop where
 sum:q*y1+r=u
 low:(u*4294967296+d)/(y1*4294967296+y0)<=q
 r0:0<=r
 q0:0<=q
 high:q<=4294967298
variable{y0 u d q r:Int}
def sC(b:2147483648<=y1)(e:0<=y0)(hu:u<y1*4294967296+y0)(hd:d<4294967296):
  (u*4294967296+d)/(y1*4294967296+y0)<4294967296:=by
 apply rN om;omega
def nV(z:2147483648<=y1)(B:y1<4294967296)(l:0<=y0)(C:y0<4294967296)(j:0<=u)(hu:u<y1*4294967296+y0)(m:0<=d)(hd:d<4294967296):
  mz y1 y0 u d (u/y1) (u-u/y1*y1):=by
 have e:=Kc u y1;have r0:=vK u (b:=y1) om;have r1:=vH u (b:=y1) om;have q0:0<=u/y1:=js j om;generalize hq:u/y1=q at*;generalize u%y1=r at*;have D:q*y1=y1*q:=iB _ _;refine⟨om,?_,om,q0,?_⟩
 ·
  apply Int.le_of_lt_add_one;apply rN om;have E:(q+1)*(y1*4294967296+y0)=(y1*q)*4294967296+y1*4294967296+(q+1)*y0:=by
   rw[Cm,<-iY,jv,vX,iB q y1,jv]
  have F:0<=(q+1)*y0:=iC om l;omega
 ·
  by_cases y:q<=4294967298
  .exact y
  .exfalso;have:4294967299*y1<=q*y1:=vG om om;omega
def mW(h:mz y1 y0 u d q r)(b:2147483648<=y1)(j:0<=y0)(ht:q*y0<=4294967296*r+d):q=(u*4294967296+d)/(y1*4294967296+y0):=by
 refine Int.le_antisymm ?_ h.low;apply(vR om).2;have e:q*(y1*4294967296+y0)=q*y1*4294967296+q*y0:=by rw[Cm,<-iY]
 have:=h.sum;omega
def ij(h:mz y1 y0 u d q r)(b:2147483648<=y1)(j:0<=y0)(hu:u<y1*4294967296+y0)(hd:d<4294967296)(ht:4294967296<=q\/4294967296*r+d<q*y0):
  (u*4294967296+d)/(y1*4294967296+y0)<=q-1:=by
 have l:=sC b j hu hd;rcases ht with ht|ht
 .omega
 .have:(u*4294967296+d)/(y1*4294967296+y0)<q:=by
   apply rN om;have e:q*(y1*4294967296+y0)=q*y1*4294967296+q*y0:=by rw[Cm,<-iY]
   have:=h.sum;omega
  omega
def ik(h:mz y1 y0 u d q r)(e:2147483648<=y1)(b:0<=(u*4294967296+d)/(y1*4294967296+y0))(hm:(u*4294967296+d)/(y1*4294967296+y0)<=q-1):mz y1 y0 u d (q-1) (r+y1):=by
 refine⟨?_,hm,?_,om,?_⟩
 .have:=h.sum;rw[Ks,vX];omega
 .have:=h.r0;omega
 .have:=h.high;omega
def il(h:mz y1 y0 u d q r)(e:2147483648<=y1)(b:0<=y0)(l:y0<4294967296)(j:0<=d)(hq:q<=4294967297)(hr:4294967296<=r):q=(u*4294967296+d)/(y1*4294967296+y0):=by
 apply mW h e b;have:q*y0<=4294967297*4294967295:=kn hq om b om;omega
def Qk{hi lo:Int}(e:0<z)(hE:0<E)(b:z*E=18446744073709551616)(j:0<=hi)(C:hi<y)(l:0<=lo)(F:lo<=18446744073709551615)(G:y*z<=18446744073709551615):
  0<=hi*z/\hi*z<=18446744073709551615/\0<=lo/E/\lo/E<z/\0<=hi*z+lo/E/\hi*z+lo/E<y*z/\
   (hi*18446744073709551616+lo)*z=(hi*z+lo/E)*18446744073709551616+lo*z%18446744073709551616:=by
 have m:0<=hi*z:=iC j om;have r:(hi+1)*z<=y*z:=vG om om;rw[jv,vX]at r;have a3:0<=lo/E:=js l om;have a4:lo/E<z:=by
  apply rN hE;omega
 refine⟨m,om,a3,a4,om,om,?_⟩;have u:lo*z/18446744073709551616=lo/E:=by
  rw[<-b,iB z E,J9 _ _ e]
 have B:=Kc (lo*z) 18446744073709551616;rw[u]at B;rw[jv,iY,iB 18446744073709551616 z,<-iY];omega
def Iz{N L b q0 v j:Int}(r:0<z)(B:0<y)(hN:N*z=E*18446744073709551616+L)
  (G:b*(y*z)+v=E*4294967296+L/4294967296) (I:q0*(y*z)+j=v*4294967296+L%4294967296) (l:0<=j) (m:j<y*z):
  b*4294967296+q0=N/y/\j/z=N%y:=by
 have e:N*z=(b*4294967296+q0)*(y*z)+j:=by
  have J:(b*4294967296+q0)*(y*z)=b*(y*z)*4294967296+q0*(y*z):=by
   rw[jv,iY,iB 4294967296 (y*z),<-iY]
  have:L=L/4294967296*4294967296+L%4294967296:=om;omega
 generalize b*4294967296+q0=q at*;have C:0<y*z:=Int.mul_pos B r;have hq:N*z/(y*z)=q:=by
  rw[e,Kr,Uf _ _ om,J6 l m,J7]
 rw[J9 _ _ r]at hq;refine⟨hq.symm,?_⟩;have F:j=(N-q*y)*z:=by rw[Ks,iY];omega
 rw[F,Int.mul_ediv_cancel _ om,Cu,hq,iB]
def eR{T Y q:Int}(hq:q=T/Y)(j:0<Y):0<=T-q*Y/\T-q*Y<Y:=by
 subst hq;have e:=Cu T Y;rw[iB]at e;have a:=vK T (b:=Y) om;have b:=vH T j;omega
def nW{u:Int}(j:0<=u)(l:1<=y1):0<=u/y1*y1/\u/y1*y1<=u/\u-u/y1*y1<y1:=by
 have e:=Cu u y1;rw[iB]at e;have a:=vK u (b:=y1) om;have b:=vH u (b:=y1) om;exact⟨iC (js j om) om,om,om⟩
def IA(s:Nat)(h:s<=63):(2:Int)^s*2^(64-s)=18446744073709551616:=by
 rw[<-Kt,show s+(64-s)=64 from om];rfl
def Fr(a b:Int)(s:Nat)(l:0<=a)(r:a*2^s<=18446744073709551615)(u:0<=b)(y:b<2^s)(B:b<=18446744073709551615):bits .or .u64 (a*2^s) b=a*2^s+b:=by
 obtain⟨n,rfl⟩:=cf l;obtain⟨m,rfl⟩:=cf u;have j:(n:Int)*2^s=((n*2^s:Nat):Int):=by rw[mm,rW];rfl
 have z:((2:Int)^s)=((2^s:Nat):Int):=by rw[rW];rfl
 rw[j]at r;rw[z]at y;rw[j,Kv (n*2^s) m om om];have e:n*2^s|||m=n*2^s+m:=by
  have:=J5 (i:=s) (b:=m) om n;rw[vQ];omega
 rw[e];omega
def Fs(hi lo y:Int)(w:ay)(h0:0<=hi)(h1:hi<y)(h2:y<=18446744073709551615)(h3:0<=lo)(h4:lo<=18446744073709551615):
  () 222 #[.int .u64 hi,.int .u64 lo,.int .u64 y] w λe w'=>e=.returned (.tuple #[.int .u64 ((hi*18446744073709551616+lo)/y),.int .u64 ((hi*18446744073709551616+lo)%y)])/\Below w.1.size w w':=by
 by_cases hz:hi=0
 .subst hz
  go_in
  go_wp2
  go_big_quiet (fail)
  go_wp2_with fail
  go_ret2;exact⟨aG,below_drewN (aY _ _) _⟩
 .have lD:(hi==0)=false:=by simpa using hz
  have tr:1<=hi:=om;clear hz
  go_in
  go_wp2_with fail
  refine(HE y w om h2).mono ?_;rintro e w1 ⟨s,rfl,rfl,s1,s2,s3⟩;have hD:0<(2:Int)^s:=Ca ak;have hE:0<(2:Int)^(64-s):=Ca ak;obtain⟨m1,m2,m3,m4,m5,m6,m7⟩:=Qk hD hE (IA s s1) h0 h1 h3 h4 s3;have eO:=Fr hi (lo/2^(64-s)) s h0 m2 m3 m4 om;have eL:IntKind.u64.wrap (lo*2^s)=lo*2^s%18446744073709551616:=bg _;have U9:0<=lo*2^s%18446744073709551616:=om;have hL1:lo*2^s%18446744073709551616<=18446744073709551615:=om;generalize MJ:hi*18446744073709551616+lo=N at*;generalize Ql:lo*2^s%18446744073709551616=L at*;generalize hUU:hi*2^s+lo/2^(64-s)=u at*;have Dj:Hx (∀R q0 v v2:Int,R*(y*2^s)+v=u*4294967296+L/4294967296->q0*(y*2^s)+v2=v*4294967296+L%4294967296->0<=v2->v2<y*2^s->R*4294967296+q0=N/y/\v2/2^s=N%y):=
   ae (λR q0 v v2 a b c d=>Iz hD om m7 a b c d)
  have eA:=p6 (y*2^s) om s3;have eB:=p6 L U9 hL1;have l:0<=y*2^s%4294967296:=om;have F:y*2^s%4294967296<4294967296:=om;have m:2147483648<=y*2^s/4294967296:=om;have KQ:y*2^s/4294967296<4294967296:=om;have C:Hx (y*2^s/4294967296*4294967296+y*2^s%4294967296=y*2^s):=ae om;have MK:0<=L/4294967296:=om;have KR:L/4294967296<4294967296:=om;have rh:0<=L%4294967296:=om;have G:L%4294967296<4294967296:=om;have qp:=ae MJ;clear m7 MJ Ql hUU;generalize hYe:y*2^s=Y at*;generalize acu:Y/4294967296=y1 at*;generalize aa4:Y%4294967296=y0 at*;generalize acv:L/4294967296=d1 at*;generalize aa5:L%4294967296=d0 at*;clear aa4 aa5;have Va:=nV m KQ l F m5 (by rw[C.o];exact m6) MK KR;have DL1:=sC (y1:=y1) (y0:=y0) (u:=u) (d:=d1) m l (by rw[C.o];exact m6) KR;obtain⟨g1,g2,g3⟩:=nW (u:=u) (y1:=y1) m5 om;have Dk:=Va.high;have E:=Va.q0;generalize hq:u/y1=q at*;generalize hre:u-q*y1=r at*;have WU:=ae Va;clear Va
  go_wp2_with fail
  go_loop [15,16] (λa b=>∃q r:Int,a=.int .u64 q/\b=.int .u64 r/\mz y1 y0 u d1 q r/\r<4294967296) (λa _=>(intOf a).toNat)
  case atStart=>exact⟨q,r,by rw[hq],rfl,WU.o,om⟩
  case round=>
   clear hq hre Dk E WU g1 g2 g3;obtain⟨q,r,rfl,rfl,Qm,hr4⟩:=hrel;have Dk:=Qm.high;have E:=Qm.q0;have Ut:=Qm.r0;have Qn:0<=(u*4294967296+d1)/(y1*4294967296+y0):=js om om;have HU:Hx (u<y1*4294967296+y0):=ae (by rw[C.o];exact m6);have HD:=ae Qm;clear Qm;by_cases wX:4294967296<=q
   .have j:=ij HD.o m l HU.o KR (.inl wX);have HN:=ae (ik HD.o m Qn j);have IB:1<=q:=om;clear j;by_cases B:4294967296<=r+y1
    .have HQ:=ae (il HN.o m l F MK om B);obtain⟨Ft,Z⟩:=eR (T:=u*4294967296+d1) (Y:=Y) (q:=(q-1)) (by rw[<-C.o];exact HQ.o) om;have Qo:Hx ((q-1)<4294967296):=ae (by have:=HQ.o;omega);have WV:0<=(q-1):=by have:=HQ.o;omega
     generalize WW:(q-1)=R at*;have HV:Hx (R*Y+(u*4294967296+d1-R*Y)=u*4294967296+d1):=ae om;have E21:IntKind.u64.wrap (IntKind.u64.wrap (IntKind.u64.wrap (u*4294967296)+d1)-IntKind.u64.wrap (R*Y))=u*4294967296+d1-R*Y:=by
      rw[bg,bg,bg,bg];omega
     have WX:=Qo.o;generalize YT:u*4294967296+d1-R*Y=v at*;clear YT;obtain⟨g1,g2,g3⟩:=nW (u:=v) (y1:=y1) Ft om;have X:=nV m KQ l F Ft (by rw[C.o];exact Z) rh G;have DL2:=sC (y1:=y1) (y0:=y0) (u:=v) (d:=d0) m l (by rw[C.o];exact Z) G;have Dk:=X.high;have E:=X.q0;generalize H5:v/y1=p at*;generalize L7:v-p*y1=t at*;have AS:=ae X;clear X
     go_wp2_with fail
     go_loop [18,16] (λa b=>∃p t:Int,a=.int .u64 p/\b=.int .u64 t/\mz y1 y0 v d0 p t/\t<4294967296) (λa _=>(intOf a).toNat)
     case atStart=>exact⟨p,t,rfl,rfl,AS.o,om⟩
     case round=>
      clear H5 L7 Dk E AS g1 g2 g3;obtain⟨p,t,rfl,rfl,D,Yz⟩:=hrel;have Dk:=D.high;have E:=D.q0;have Ut:=D.r0;have I:0<=(v*4294967296+d0)/(y1*4294967296+y0):=js om om;have jQ:Hx (v<y1*4294967296+y0):=ae (by rw[C.o];exact Z);have J:=ae D;clear D;by_cases xG:4294967296<=p
      .have j:=ij J.o m l jQ.o G (.inl xG);have K:=ae (ik J.o m I j);have IB:1<=p:=om;clear j;by_cases B:4294967296<=t+y1
       .have z:=ae (il K.o m l F rh om B);obtain⟨M,O⟩:=eR (T:=v*4294967296+d0) (Y:=Y) (q:=(p-1)) (by rw[<-C.o];exact z.o) om;have P:Hx ((p-1)<4294967296):=ae (by have:=z.o;omega);have S:0<=(p-1):=by have:=z.o;omega
        generalize U:(p-1)=p1 at*;have HX:Hx (p1*Y+(v*4294967296+d0-p1*Y)=v*4294967296+d0):=ae om;have Fu:IntKind.u64.wrap (IntKind.u64.wrap (IntKind.u64.wrap (v*4294967296)+d0)-IntKind.u64.wrap (p1*Y))=v*4294967296+d0-p1*Y:=by
         rw[bg,bg,bg,bg];omega
        have V:=P.o;generalize xH:v*4294967296+d0-p1*Y=x at*;clear xH;have FF:=ae (Dj.o R p1 v x HV.o HX.o M O)
        go_wp2_with fail
        go_ret2;exact⟨by rw[qp.o,<-FF.o.1,<-FF.o.2];rfl,aY _ _⟩
       .go_wp2_with fail
        go_round
        case rel=>exact⟨p-1,t+y1,rfl,rfl,K.o,om⟩
        case measure=>exact e6
      .have Qp:0<=p*y0:=iC E l;have Qq:p*y0<=4294967295*4294967295:=kn om om l om;by_cases Q:4294967296*t+d0<p*y0
       .have j:=ij J.o m l jQ.o G (.inr Q);have K:=ae (ik J.o m I j);have IB:1<=p:=om;clear j;by_cases B:4294967296<=t+y1
        .have z:=ae (il K.o m l F rh om B);obtain⟨M,O⟩:=eR (T:=v*4294967296+d0) (Y:=Y) (q:=(p-1)) (by rw[<-C.o];exact z.o) om;have P:Hx ((p-1)<4294967296):=ae (by have:=z.o;omega);have S:0<=(p-1):=by have:=z.o;omega
         generalize U:(p-1)=p1 at*;have HX:Hx (p1*Y+(v*4294967296+d0-p1*Y)=v*4294967296+d0):=ae om;have Fu:IntKind.u64.wrap (IntKind.u64.wrap (IntKind.u64.wrap (v*4294967296)+d0)-IntKind.u64.wrap (p1*Y))=v*4294967296+d0-p1*Y:=by
          rw[bg,bg,bg,bg];omega
         have V:=P.o;generalize xH:v*4294967296+d0-p1*Y=x at*;clear xH;have FF:=ae (Dj.o R p1 v x HV.o HX.o M O)
         go_wp2_with fail
         go_ret2;exact⟨by rw[qp.o,<-FF.o.1,<-FF.o.2];rfl,aY _ _⟩
        .go_wp2_with fail
         go_round
         case rel=>exact⟨p-1,t+y1,rfl,rfl,K.o,om⟩
         case measure=>exact e6
       .have z:=ae (mW J.o m l om);obtain⟨M,O⟩:=eR (T:=v*4294967296+d0) (Y:=Y) (q:=p) (by rw[<-C.o];exact z.o) om;have P:Hx (p<4294967296):=ae (by have:=z.o;omega);have S:0<=p:=by have:=z.o;omega
        generalize U:p=p1 at*;have HX:Hx (p1*Y+(v*4294967296+d0-p1*Y)=v*4294967296+d0):=ae om;have Fu:IntKind.u64.wrap (IntKind.u64.wrap (IntKind.u64.wrap (v*4294967296)+d0)-IntKind.u64.wrap (p1*Y))=v*4294967296+d0-p1*Y:=by
         rw[bg,bg,bg,bg];omega
        have V:=P.o;generalize xH:v*4294967296+d0-p1*Y=x at*;clear xH;have FF:=ae (Dj.o R p1 v x HV.o HX.o M O)
        go_wp2_with fail
        go_ret2;exact⟨by rw[qp.o,<-FF.o.1,<-FF.o.2];rfl,aY _ _⟩
    .go_wp2
     go_round
     .exact⟨q-1,r+y1,rfl,rfl,HN,om⟩
     .simp[intOf];omega
   .have Qp:0<=q*y0:=iC E l;have Qq:q*y0<=4294967295*4294967295:=kn om om l om;by_cases Q:4294967296*r+d1<q*y0
    .have j:=ij HD m l HU KR (.inr Q);have HN:=ae (ik HD m Qn j);have IB:1<=q:=om;by_cases B:4294967296<=r+y1
     .have HQ:=ae (il HN m l F MK om B);have⟨Ft,Z⟩:=eR (T:=u*4294967296+d1) (Y:=Y) (q:=(q-1)) (by rw[<-C.o];exact HQ) om;have Qo:Hx ((q-1)<4294967296):=ae (by have:=HQ.o;omega);have WV:0<=(q-1):=by have:=HQ.o;omega
      generalize WW:(q-1)=R at*;have HV:Hx (R*Y+(u*4294967296+d1-R*Y)=u*4294967296+d1):=ae om;have E21:IntKind.u64.wrap (IntKind.u64.wrap (IntKind.u64.wrap (u*4294967296)+d1)-IntKind.u64.wrap (R*Y))=u*4294967296+d1-R*Y:=by
       rw[bg,bg,bg,bg];omega
      have WX:=Qo.o;generalize YT:u*4294967296+d1-R*Y=v at*;have⟨g1,g2,g3⟩:=nW (u:=v) (y1:=y1) Ft om;have X:=nV m KQ l F Ft (by rw[C.o];exact Z) rh G;have DL2:=sC (y1:=y1) (y0:=y0) (u:=v) (d:=d0) m l (by rw[C.o];exact Z) G;have Dk:=X.high;have E:=X.q0;generalize H5:v/y1=p at*;generalize L7:v-p*y1=t at*;have AS:=ae X
      go_wp2
      go_loop [18,16] (λa b=>∃p t:Int,a=.int .u64 p/\b=.int .u64 t/\mz y1 y0 v d0 p t/\t<4294967296) (λa _=>(intOf a).toNat)
      .exact⟨p,t,rfl,rfl,AS,om⟩
      ·
       obtain⟨p,t,rfl,rfl,D,Yz⟩:=hrel;have Dk:=D.high;have E:=D.q0;have Ut:=D.r0;have I:0<=(v*4294967296+d0)/(y1*4294967296+y0):=js om om;have jQ:Hx (v<y1*4294967296+y0):=ae (by rw[C.o];exact Z);have J:=ae D;by_cases xG:4294967296<=p
       .have j:=ij J m l jQ G (.inl xG);have K:=ae (ik J m I j);have IB:1<=p:=om;by_cases B:4294967296<=t+y1
        .have z:=ae (il K m l F rh om B);have⟨M,O⟩:=eR (T:=v*4294967296+d0) (Y:=Y) (q:=(p-1)) (by rw[<-C.o];exact z) om;have P:Hx ((p-1)<4294967296):=ae (by have:=z.o;omega);have S:0<=(p-1):=by have:=z.o;omega
         generalize U:(p-1)=p1 at*;have HX:Hx (p1*Y+(v*4294967296+d0-p1*Y)=v*4294967296+d0):=ae om;have Fu:IntKind.u64.wrap (IntKind.u64.wrap (IntKind.u64.wrap (v*4294967296)+d0)-IntKind.u64.wrap (p1*Y))=v*4294967296+d0-p1*Y:=by
          rw[bg,bg,bg,bg];omega
         have V:=P.o;generalize xH:v*4294967296+d0-p1*Y=x at*;have FF:=ae (Dj.o R p1 v x HV HX M O)
         go_wp2
         go_ret2;exact⟨by rw[qp.o,<-FF.o.1,<-FF.o.2];rfl,aY _ _⟩
        .go_wp2
         go_round
         .exact⟨p-1,t+y1,rfl,rfl,K,om⟩
         .simp[intOf];omega
       .have Qp:0<=p*y0:=iC E l;have Qq:p*y0<=4294967295*4294967295:=kn om om l om;by_cases Q:4294967296*t+d0<p*y0
        .have j:=ij J m l jQ G (.inr Q);have K:=ae (ik J m I j);have IB:1<=p:=om;by_cases B:4294967296<=t+y1
         .have z:=ae (il K m l F rh om B);have⟨M,O⟩:=eR (T:=v*4294967296+d0) (Y:=Y) (q:=(p-1)) (by rw[<-C.o];exact z) om;have P:Hx ((p-1)<4294967296):=ae (by have:=z.o;omega);have S:0<=(p-1):=by have:=z.o;omega
          generalize U:(p-1)=p1 at*;have HX:Hx (p1*Y+(v*4294967296+d0-p1*Y)=v*4294967296+d0):=ae om;have Fu:IntKind.u64.wrap (IntKind.u64.wrap (IntKind.u64.wrap (v*4294967296)+d0)-IntKind.u64.wrap (p1*Y))=v*4294967296+d0-p1*Y:=by
           rw[bg,bg,bg,bg];omega
          have V:=P.o;generalize xH:v*4294967296+d0-p1*Y=x at*;have FF:=ae (Dj.o R p1 v x HV HX M O)
          go_wp2
          go_ret2;exact⟨by rw[qp.o,<-FF.o.1,<-FF.o.2];rfl,aY _ _⟩
         .go_wp2
          go_round
          .exact⟨p-1,t+y1,rfl,rfl,K,om⟩
          .simp[intOf];omega
        .have z:=ae (mW J m l om);have⟨M,O⟩:=eR (T:=v*4294967296+d0) (Y:=Y) (q:=p) (by rw[<-C.o];exact z) om;have P:Hx (p<4294967296):=ae (by have:=z.o;omega);have S:0<=p:=by have:=z.o;omega
         generalize U:p=p1 at*;have HX:Hx (p1*Y+(v*4294967296+d0-p1*Y)=v*4294967296+d0):=ae om;have Fu:IntKind.u64.wrap (IntKind.u64.wrap (IntKind.u64.wrap (v*4294967296)+d0)-IntKind.u64.wrap (p1*Y))=v*4294967296+d0-p1*Y:=by
          rw[bg,bg,bg,bg];omega
         have V:=P.o;generalize xH:v*4294967296+d0-p1*Y=x at*;have FF:=ae (Dj.o R p1 v x HV HX M O)
         go_wp2
         go_ret2;exact⟨by rw[qp.o,<-FF.o.1,<-FF.o.2];rfl,aY _ _⟩
     .go_wp2
      go_round
      .exact⟨q-1,r+y1,rfl,rfl,HN,om⟩
      .simp[intOf];omega
    .have HQ:=ae (mW HD m l om);have⟨Ft,Z⟩:=eR (T:=u*4294967296+d1) (Y:=Y) (q:=q) (by rw[<-C.o];exact HQ) om;have Qo:Hx (q<4294967296):=ae (by have:=HQ.o;omega);have WV:0<=q:=by have:=HQ.o;omega
     generalize WW:q=R at*;have HV:Hx (R*Y+(u*4294967296+d1-R*Y)=u*4294967296+d1):=ae om;have E21:IntKind.u64.wrap (IntKind.u64.wrap (IntKind.u64.wrap (u*4294967296)+d1)-IntKind.u64.wrap (R*Y))=u*4294967296+d1-R*Y:=by
      rw[bg,bg,bg,bg];omega
     have WX:=Qo.o;generalize YT:u*4294967296+d1-R*Y=v at*;have⟨g1,g2,g3⟩:=nW (u:=v) (y1:=y1) Ft om;have X:=nV m KQ l F Ft (by rw[C.o];exact Z) rh G;have DL2:=sC (y1:=y1) (y0:=y0) (u:=v) (d:=d0) m l (by rw[C.o];exact Z) G;have Dk:=X.high;have E:=X.q0;generalize H5:v/y1=p at*;generalize L7:v-p*y1=t at*;have AS:=ae X
     go_wp2
     go_loop [18,16] (λa b=>∃p t:Int,a=.int .u64 p/\b=.int .u64 t/\mz y1 y0 v d0 p t/\t<4294967296) (λa _=>(intOf a).toNat)
     .exact⟨p,t,rfl,rfl,AS,om⟩
     ·
      obtain⟨p,t,rfl,rfl,D,Yz⟩:=hrel;have Dk:=D.high;have E:=D.q0;have Ut:=D.r0;have I:0<=(v*4294967296+d0)/(y1*4294967296+y0):=js om om;have jQ:Hx (v<y1*4294967296+y0):=ae (by rw[C.o];exact Z);have J:=ae D;by_cases xG:4294967296<=p
      .have j:=ij J m l jQ G (.inl xG);have K:=ae (ik J m I j);have IB:1<=p:=om;by_cases B:4294967296<=t+y1
       .have z:=ae (il K m l F rh om B);have⟨M,O⟩:=eR (T:=v*4294967296+d0) (Y:=Y) (q:=(p-1)) (by rw[<-C.o];exact z) om;have P:Hx ((p-1)<4294967296):=ae (by have:=z.o;omega);have S:0<=(p-1):=by have:=z.o;omega
        generalize U:(p-1)=p1 at*;have HX:Hx (p1*Y+(v*4294967296+d0-p1*Y)=v*4294967296+d0):=ae om;have Fu:IntKind.u64.wrap (IntKind.u64.wrap (IntKind.u64.wrap (v*4294967296)+d0)-IntKind.u64.wrap (p1*Y))=v*4294967296+d0-p1*Y:=by
         rw[bg,bg,bg,bg];omega
        have V:=P.o;generalize xH:v*4294967296+d0-p1*Y=x at*;have FF:=ae (Dj.o R p1 v x HV HX M O)
        go_wp2
        go_ret2;exact⟨by rw[qp.o,<-FF.o.1,<-FF.o.2];rfl,aY _ _⟩
       .go_wp2
        go_round
        .exact⟨p-1,t+y1,rfl,rfl,K,om⟩
        .simp[intOf];omega
      .have Qp:0<=p*y0:=iC E l;have Qq:p*y0<=4294967295*4294967295:=kn om om l om;by_cases Q:4294967296*t+d0<p*y0
       .have j:=ij J m l jQ G (.inr Q);have K:=ae (ik J m I j);have IB:1<=p:=om;by_cases B:4294967296<=t+y1
        .have z:=ae (il K m l F rh om B);have⟨M,O⟩:=eR (T:=v*4294967296+d0) (Y:=Y) (q:=(p-1)) (by rw[<-C.o];exact z) om;have P:Hx ((p-1)<4294967296):=ae (by have:=z.o;omega);have S:0<=(p-1):=by have:=z.o;omega
         generalize U:(p-1)=p1 at*;have HX:Hx (p1*Y+(v*4294967296+d0-p1*Y)=v*4294967296+d0):=ae om;have Fu:IntKind.u64.wrap (IntKind.u64.wrap (IntKind.u64.wrap (v*4294967296)+d0)-IntKind.u64.wrap (p1*Y))=v*4294967296+d0-p1*Y:=by
          rw[bg,bg,bg,bg];omega
         have V:=P.o;generalize xH:v*4294967296+d0-p1*Y=x at*;have FF:=ae (Dj.o R p1 v x HV HX M O)
         go_wp2
         go_ret2;exact⟨by rw[qp.o,<-FF.o.1,<-FF.o.2];rfl,aY _ _⟩
        .go_wp2
         go_round
         .exact⟨p-1,t+y1,rfl,rfl,K,om⟩
         .simp[intOf];omega
       .have z:=ae (mW J m l om);have⟨M,O⟩:=eR (T:=v*4294967296+d0) (Y:=Y) (q:=p) (by rw[<-C.o];exact z) om;have P:Hx (p<4294967296):=ae (by have:=z.o;omega);have S:0<=p:=by have:=z.o;omega
        generalize U:p=p1 at*;have HX:Hx (p1*Y+(v*4294967296+d0-p1*Y)=v*4294967296+d0):=ae om;have Fu:IntKind.u64.wrap (IntKind.u64.wrap (IntKind.u64.wrap (v*4294967296)+d0)-IntKind.u64.wrap (p1*Y))=v*4294967296+d0-p1*Y:=by
         rw[bg,bg,bg,bg];omega
        have V:=P.o;generalize xH:v*4294967296+d0-p1*Y=x at*;have FF:=ae (Dj.o R p1 v x HV HX M O)
        go_wp2
        go_ret2;exact⟨by rw[qp.o,<-FF.o.1,<-FF.o.2];rfl,aY _ _⟩
def Qr(x y:Int)(w:ay)(L:bo x)(N:bo y):
  () 176 #[x,y] w λe w'=>e=.returned (fdiv x y:Int)/\Below w.1.size w w':=by
 by_cases z:y=0
 .subst z;by_cases B:x=0
  .subst B
   go_in
   go_wp2
   go_ret;exact⟨bz ak,aY _ _⟩
  .have hb:(x==0)=false:=by simpa using B
   have m:Hx (fdiv x 0=i5 (decide (x<0))):=ae (by simp[fdiv,B])
   go_in
   go_wp2_with fail
   refine(kC _ w).mono ?_;rintro e w' ⟨rfl,rfl⟩
   go_wp2
   go_ret;exact⟨bz m.o.symm,aY _ _⟩
 .have hb:(y==0)=false:=by simpa using z
  have⟨a0,a1⟩:=hk L;have⟨b0,b1⟩:=hk N;have X:1<=jH y:=by unfold jH;split<;>omega
  have F:Hx (fdiv x y=gh (zP (jH x*4294967296) (jH y)) (mK x y)):=ae (by rw[fdiv,ag z]);have O:=ae (p7 x w L);have P:=ae (p7 y w N);have C:Hx ((!decide (x<0)==decide (y<0))=mK x y):=rfl;generalize jH x=a at*;generalize jH y=b at*;have el:IntKind.u64.wrap (a*4294967296)=a*4294967296%18446744073709551616:=bg _;have G:Hx (a/4294967296*18446744073709551616+a*4294967296%18446744073709551616=a*4294967296):=ae om;have T:0<=a*4294967296%18446744073709551616:=om;have l1:a*4294967296%18446744073709551616<=18446744073709551615:=om;have c0:0<=a/4294967296:=om;have c1:a/4294967296<=2147483648:=om;generalize Y:a*4294967296=M at*;generalize M%18446744073709551616=lo at*;generalize Z:a/4294967296=hi at*;have U:Hx (0<=M):=ae om
  go_in
  go_wp2_with fail
  refine O.o.mono ?_;rintro e w' ⟨rfl,rfl⟩
  go_wp2_with fail
  refine P.o.mono ?_;rintro e w' ⟨rfl,rfl⟩;by_cases D:b<=hi
  .have m:Hx (fdiv x y=i5 (mK x y)):=ae (by
    have hs:=G.o;have:9223372036854775808<=M/b:=(vR om).2 (by
     have:9223372036854775808*b<=9223372036854775808*hi:=pU D ak;omega)
    rw[F.o,gh,ah];unfold zP;split<;>omega)
   go_wp2_with fail
   rw[C.o];refine(kC _ w).mono ?_;rintro e w' ⟨rfl,rfl⟩
   go_wp2
   go_ret;exact⟨bz m.o.symm,aY _ _⟩
  .have I:hi<b:=om;have J:=ae (Fs hi lo b w c0 I om T l1);rw[G.o]at J;have K:Hx (zP M b=if b<2*(M%b)\/(2*(M%b)=b/\(M/b)%2=1)then M/b+1 else M/b):=rfl;have q0:0<=M/b:=js U.o om;have V:M/b<=18446744073709551615:=by
    have:M/b<18446744073709551616:=rN om (by
     have hs:=G.o;have:18446744073709551616*(hi+1)<=18446744073709551616*b:=pU om ak;omega)
    omega
   have r0:0<=M%b:=vK _ om;have r1:M%b<b:=vH _ om;generalize M/b=q at*;generalize M%b=r at*;have Q:=Eo q q0 V
   go_wp2_with fail
   refine J.o.mono ?_;rintro e w1 ⟨rfl,u⟩;clear J O P;by_cases R:9223372036854775808<=q
   .have m:Hx (fdiv x y=i5 (mK x y)):=ae (by
     rw[F.o,gh,ah];rw[K.o];split<;>omega)
    go_wp2_with fail
    rw[C.o];refine(kC _ w1).mono ?_;rintro e w' ⟨rfl,rfl⟩
    go_wp2_with fail
    go_ret;exact⟨bz m.o.symm,u⟩
   .by_cases j:b<2*r\/(2*r=b/\q%2=1)
    .have m:Hx (fdiv x y=gh (q+1) (mK x y)):=ae (by rw[F.o,K.o,ah j]);rcases j with j|⟨j,l⟩
     focus
      have d1:decide (b-r<r)=true:=by simp;omega
     rotate_left
     focus
      have d1:decide (b-r<r)=false:=by simp;omega
      have S:(r==b-r)=true:=by simp;omega
      rw[l]at Q;clear j l
     all_goals
      go_wp2_with fail
      rw[C.o];refine(ie (q+1) _ w1 om om).mono ?_;rintro e w' ⟨rfl,rfl⟩
      go_wp2_with fail
      go_ret;exact⟨bz m.o.symm,u⟩
    .have m:Hx (fdiv x y=gh q (mK x y)):=ae (by rw[F.o,K.o,ag j]);by_cases E:2*r=b
     .have d1:decide (b-r<r)=false:=by simp;omega
      have S:(r==b-r)=true:=by simp;omega
      have l:q%2=0:=om;rw[l]at Q;clear j l E
      go_wp2_with fail
      rw[C.o];refine(ie q _ w1 om om).mono ?_;rintro e w' ⟨rfl,rfl⟩
      go_wp2_with fail
      go_ret;exact⟨bz m.o.symm,u⟩
     .have d1:decide (b-r<r)=false:=by simp;omega
      have S:(r==b-r)=false:=by simp;omega
      clear j E
      go_wp2_with fail
      rw[C.o];refine(ie q _ w1 om om).mono ?_;rintro e w' ⟨rfl,rfl⟩
      go_wp2
      go_ret;exact⟨bz m.o.symm,u⟩
section
variable{w:World}{n:Nat}
def YU(w:ay)(zs xs:av)(n m:Nat)(e:Ending)(w':ay):Prop:=
 ∃g b,e=.returned (.tuple #[.agg #[.slice (some ⟨g,0,none⟩) n n,.slice (some ⟨b,0,none⟩) m m],au])/\w.1.size<=g/\w.1.size<=b/\Own w' g 3 zs/\Own w' b 65 xs/\aj w' w
def ML[a:Sl w A n zs](b:n<=1000000)(hr:aA zs=true)(hp:Hx (aN zs=(m:Int))):() 62 #[(A,n,c),z] w (YU w zs (List.replicate m z) n m):=by
 obtain⟨a,rfl⟩:=a;exact(up A c zs z m w b a hr hp).mono λ_ _ ⟨g,e,j,l,r,o1,u,hb⟩=>⟨g,e,by rw[j,fg],l,r,o1,u,⟨hb⟩⟩
end
