/- Lemmas. -/
import Derived.Test.YtmkjnlifimffkaaGreatS10
import Derived.Test.YtmkjnlifimffkaaGreatS04
namespace Go.Proofs.YtmkjnlifimffkaaGreat
open Go.RowKit Tryz
set_option linter.all false
set_option maxRecDepth 100000
set_option maxHeartbeats 0
section
variable{P:Program}
def mF(zs xs:au):Bool:=ap zs xs&&decide (zs.length=2)
def XG(A B:bF)(c d:Nat)(zs xs:au)(w:aa)(m:zs.length<=1000000)(h:Rd w A zs):
  () 214 #[.agg #[.slice A zs c,.slice B xs d]] w (ov w (.bool (mF zs xs))):=by
 have b:=(aV w.1.size w).alloc (al _) (.cells #[.slice A zs c,.slice B xs d] 28);have k1:=az.new w 28 #[.slice A zs c,.slice B xs d];rcases hr:ap zs xs with _|_
 .have j:=ae hr;have l:Hx (mF zs xs=false):=ae (by simp[mF,hr])
  go_in
  go_wp2_with fail
  refine(eJ A B c d zs xs _ m (h.below b)).mono ?_;rintro e r ⟨rfl,hb⟩;rw[j.o]
  go_wp2
  go_ret;exact⟨bU l.o.symm,du b hb⟩
 .have j:=ae hr;have l:Hx (mF zs xs=((zs.length:Int)==2)):=ae (by rw[mF,hr,EJ,tN];simp;omega)
  go_in
  go_wp2_with fail
  refine(eJ A B c d zs xs _ m (h.below b)).mono ?_;rintro e r ⟨rfl,hb⟩;rw[j.o];replace k1:=k1.keep hb;replace b:=du b hb;have⟨q0,q1⟩:=bI k1
  go_wp2
  go_ret;exact⟨bU l.o.symm,b⟩
def HX(t:TypeId)(ht:P.underlying t=some (.slice (P.elem t)))(hs:(P.info? (P.elem t)).map (·.size)=some 1)(b off l c k m:Nat)(i j:Int)(hi:i=(k:Int))(r:j=(m:Int))(u:k<m)(hm:m<=c)(w:aa):
  (Instr.slice t (.slice (some ⟨b,off,none⟩) l c) (some (.int .i64 i)) (some (.int .i64 j)) (some (.int .i64 j))).run P w=.ok (.slice (some ⟨b,off+k,none⟩) (m-k) (m-k)) w:=by
 subst hi r;rw[yt w t (some ⟨b,off,none⟩) l c ht .i64 .i64 .i64 k m m om om om om,h1 hs];have:¬m=k:=om;by_cases e:k=0
 .subst e;simp[Result.andThen,sliced,this,Addr.add]
 .simp[Result.andThen,sliced,this,Addr.add,e]
def XH(A:bF)(b off c d M N i S:Nat)(xs:au)(w:aa)(hd:xs.length<=d)(B:M<=1024)(hN:N<=1024)(m:1<=N)(r:Hx (xs.length=M*N))(u:xs.length<=65536)(hi:i<M)(hS:Hx (i*N=S))(h:Rd w A [(M:Int),(N:Int)]):
  () 169 #[.agg #[(A,2,c),.slice (some ⟨b,off,none⟩) xs d],i] w λe w'=>e=.returned (.slice (some ⟨b,off+S,none⟩) N N)/\w'=w.alloc (.cells #[(A,2,c),.slice (some ⟨b,off,none⟩) xs d] 28):=by
 obtain⟨C,oa,rfl,y,z⟩:=(h.alloc (.cells #[(A,2,c),.slice (some ⟨b,off,none⟩) xs d] 28)) 1 (N:Int) rfl;have l:S+N<=xs.length:=by rw[r.o,<-hS.o,<-d5];exact cU _ hi
 have m1:(i:Int)*(N:Int)=(S:Int):=by rw[<-hS.o,b8]
 have D:((i:Int)+1)*(N:Int)=(S:Int)+N:=by rw[iV,m1,rD]
 have j:=HX (P:=prog) 26 ao ao b off xs.length d S (S+N) (S:Int) ((S:Int)+N) rfl om om om;rw[tE]at j
 go_in
 go_wp2
 go_ret;exact⟨rfl,rfl⟩
def XI(A B C D:bF)(c d u d':Nat)(zs xs ts b:au)(w:aa)(E:zs.length<=1000000)(ht:ts.length<=1000000)
  (F:Rd w A zs) (G:Rd w B xs) (I:Rd w C ts) (J:Rd w D b) (K:Hx (∀z∈xs,bb z)) (L:Hx (∀z∈b,bb z)):
  () 159 #[.agg #[.slice A zs c,.slice B xs d],.agg #[.slice C ts u,.slice D b d']] w (fH w (Ch ts b zs xs) (Ci ts b zs xs) (O7 ts b zs xs)):=by
 have j:=(((aV w.1.size w).alloc (al _) (.cells #[.slice A zs c,.slice B xs d] 28)).alloc aD (.cells #[.slice C ts u,.slice D b d'] 28)).alloc cr (.cells #[(),()] 28);have l:=az.ew ((w.alloc (.cells #[.slice A zs c,.slice B xs d] 28)).alloc (.cells #[.slice C ts u,.slice D b d'] 28)) 28 #[(),()] (n:=w.1.size+1+1) aD
 go_in
 go_wp2_with fail
 refine(aaE C D A B u d' c d ts b zs xs _ ht E (I.below j) (J.below j) (F.below j) (G.below j) L K).mono ?_;rintro e R ⟨m,c1,r,d1,rfl,oS,y,hb⟩;replace oS:=oS.more (B':=w.1.size) j.size;replace y:=y.more (B':=w.1.size) j.size;replace l:=l.keep hb;replace j:=du j hb;have⟨q0,q1⟩:=bI l;have S:=l.frozen 0;have f1:=l.frozen 1;have n1:=oS.aH l am;have M:=y.aH l am
 go_wp2
 have N:=l.bP (.slice m (Ch ts b zs xs).length c1) (.slice r (Ci ts b zs xs).length d1);have O:=br j (p:=w.1.size+1+1) om (.slice m (Ch ts b zs xs).length c1) (.slice r (Ci ts b zs xs).length d1);have P:=oS.bA n1 (.slice m (Ch ts b zs xs).length c1) (.slice r (Ci ts b zs xs).length d1);have Q:=y.bA M (.slice m (Ch ts b zs xs).length c1) (.slice r (Ci ts b zs xs).length d1);have⟨q0,q1⟩:=bI N;refine aX (v:=.tuple #[.agg #[.slice m (Ch ts b zs xs).length c1,.slice r (Ci ts b zs xs).length d1],.int .i64 (O7 ts b zs xs)]) (by simp[results,results159,go_sem,q0,q1]) rfl ?_;exact⟨_,_,_,_,rfl,P,Q,O⟩
end
def qH(A B)(c d)(xs b)(w)(hs:xs.length<=1000000)(e:b.length<=1000000)(h:Rd w A xs)(j:Rd w B b):
  () 70 #[.slice A xs c,.slice B b d] w (ov w (.bool (decide (xs=b)))):=
 (l7 A B c d xs b w hs e h j).mono λ_ _ ⟨l,m,hm⟩=>⟨l,by rw[hm];exact below_drewN (aV _ _) m⟩
def eA(zs xs ts e j b:au):Bool:=mF zs xs&&ap ts e&&ap j b&&decide (ts=[zs.getD 0 0])&&decide ((b.length:Int)=zs.getD 1 0)
def HZ(A B C D E F:bF)(c d y d' I J:Nat)(zs xs ts r m u:au)(w:aa)(S6:zs.length<=1000000)(T:ts.length<=1000000)(sW:m.length<=1000000)(M:Rd w A zs)(P:Rd w C ts)(X:Rd w E m):
  () 168 #[.agg #[.slice A zs c,.slice B xs d],.agg #[.slice C ts y,.slice D r d'],.agg #[.slice E m I,.slice F u J]] w (ov w (.bool (eA zs xs ts r m u))):=by
 have Q:=(((aV w.1.size w).alloc (al _) (.cells #[.slice A zs c,.slice B xs d] 28)).alloc aD (.cells #[.slice C ts y,.slice D r d'] 28)).alloc cr (.cells #[.slice E m I,.slice F u J] 28);have k1:=((az.new w 28 #[.slice A zs c,.slice B xs d]).alloc (.cells #[.slice C ts y,.slice D r d'] 28)).alloc (.cells #[.slice E m I,.slice F u J] 28);have k2:=(az.ew (w.alloc (.cells #[.slice A zs c,.slice B xs d] 28)) 28 #[.slice C ts y,.slice D r d'] (n:=w.1.size+1) aD).alloc (.cells #[.slice E m I,.slice F u J] 28);have U:=az.ew ((w.alloc (.cells #[.slice A zs c,.slice B xs d] 28)).alloc (.cells #[.slice C ts y,.slice D r d'] 28)) 28 #[.slice E m I,.slice F u J] (n:=w.1.size+1+1) aD;replace M:=M.below Q;replace P:=P.below Q;replace X:=X.below Q;have L:=ae λ(w':aa) (h:Rd w' A zs)=>XG A B c d zs xs w' S6 h;have R:=ae λ(w':aa) (h:Rd w' C ts)=>eJ C D y d' ts r w' T h;have V:=ae λ(w':aa) (h:Rd w' E m)=>eJ E F I J m u w' sW h;rcases q1:mF zs xs with _|_
 .rw[q1]at L;have N:Hx (eA zs xs ts r m u=false):=ae (by simp[eA,q1])
  go_in
  go_wp2
  generalize((w.alloc (.cells #[.slice A zs c,.slice B xs d] 28)).alloc (.cells #[.slice C ts y,.slice D r d'] 28)).alloc (.cells #[.slice E m I,.slice F u J] 28)=W0 at*;have l:Hx (∀w':World,Below (W0).1.size (W0) w'->Below (W0).1.size (W0) w'/\w'.cell? (w.1.size,0)=some (.slice A zs c)/\w'.cell? (w.1.size,1)=some (.slice B xs d)):=λw' j=>⟨j,(k1.keep j).cell 0,(k1.keep j).cell 1⟩;refine wp_region_held_drew (S:=λw'=>Below (W0).1.size (W0) w'/\w'.cell? (w.1.size,0)=some (.slice A zs c)/\w'.cell? (w.1.size,1)=some (.slice B xs d)) ao (l.o _ (aV _ _).drew) (λhHeld=>?_);have b:Below (W0).1.size (W0) (W0).drew:=(aV _ _).drew;refine oA 0 ?_;refine aK 1 λK hK=>?_;go_simp;refine(L.o _ (M.below b)).mono ?_;rintro e w1 ⟨rfl,hb⟩;replace b:=du b hb;refine hK.out _ _ (l.o _ b) (λhHeld=>?_)
  try dsimp only[Act.put,List.setIfInBounds_toArray,List.set_cons_zero,List.set_cons_succ]
  refine oA 2 ?_;refine fA 3 ?_;refine fA 4 ?_;refine oA 5 ?_;refine oA 6 ?_;refine fA 7 ?_;refine fA 8 ?_;refine oA 9 ?_;refine oA 10 ?_;refine fA 11 ?_;refine fA 12 ?_;refine fA 13 ?_;refine fA 14 ?_;refine fA 15 ?_;refine fA 16 ?_;refine fA 17 ?_;refine fA 18 ?_;refine oA 19 ?_;refine oA 20 ?_;refine fA 21 ?_;refine fA 22 ?_;refine fA 23 ?_;refine fA 24 ?_;refine fA 25 ?_;refine fA 26 ?_;refine fA 27 ?_;refine fA 28 ?_;refine oA 29 ?_;refine oA 30 ?_;refine a9 ?_
  go_wp2
  go_ret;exact⟨bU N.o.symm,du Q b⟩
 rcases q2:ap ts r with _|_
 .rw[q1]at L;rw[q2]at R;have N:Hx (eA zs xs ts r m u=false):=ae (by simp[eA,q2])
  go_in
  go_wp2
  generalize((w.alloc (.cells #[.slice A zs c,.slice B xs d] 28)).alloc (.cells #[.slice C ts y,.slice D r d'] 28)).alloc (.cells #[.slice E m I,.slice F u J] 28)=W0 at*;have l:Hx (∀w':World,Below (W0).1.size (W0) w'->Below (W0).1.size (W0) w'/\w'.cell? (w.1.size,0)=some (.slice A zs c)/\w'.cell? (w.1.size,1)=some (.slice B xs d)/\w'.cell? (w.1.size+1,0)=some (.slice C ts y)/\w'.cell? (w.1.size+1,1)=some (.slice D r d')):=λw' j=>⟨j,(k1.keep j).cell 0,(k1.keep j).cell 1,(k2.keep j).cell 0,(k2.keep j).cell 1⟩;refine wp_region_held_drew (S:=λw'=>Below (W0).1.size (W0) w'/\w'.cell? (w.1.size,0)=some (.slice A zs c)/\w'.cell? (w.1.size,1)=some (.slice B xs d)/\w'.cell? (w.1.size+1,0)=some (.slice C ts y)/\w'.cell? (w.1.size+1,1)=some (.slice D r d')) ao (l.o _ (aV _ _).drew) (λhHeld=>?_);have b:Below (W0).1.size (W0) (W0).drew:=(aV _ _).drew;refine oA 0 ?_;refine aK 1 λK hK=>?_;go_simp;refine(L.o _ (M.below b)).mono ?_;rintro e w1 ⟨rfl,hb⟩;replace b:=du b hb;refine hK.out _ _ (l.o _ b) (λhHeld=>?_)
  try dsimp only[Act.put,List.setIfInBounds_toArray,List.set_cons_zero,List.set_cons_succ]
  refine oA 2 ?_;refine oA 3 ?_;refine aK 4 λK hK=>?_;go_simp;refine(R.o _ (P.below b)).mono ?_;rintro e w2 ⟨rfl,hb⟩;replace b:=du b hb;refine hK.out _ _ (l.o _ b) (λhHeld=>?_)
  try dsimp only[Act.put,List.setIfInBounds_toArray,List.set_cons_zero,List.set_cons_succ]
  refine oA 5 ?_;refine oA 6 ?_;refine fA 7 ?_;refine fA 8 ?_;refine oA 9 ?_;refine oA 10 ?_;refine fA 11 ?_;refine fA 12 ?_;refine fA 13 ?_;refine fA 14 ?_;refine fA 15 ?_;refine fA 16 ?_;refine fA 17 ?_;refine fA 18 ?_;refine oA 19 ?_;refine oA 20 ?_;refine fA 21 ?_;refine fA 22 ?_;refine fA 23 ?_;refine fA 24 ?_;refine fA 25 ?_;refine fA 26 ?_;refine fA 27 ?_;refine fA 28 ?_;refine oA 29 ?_;refine oA 30 ?_;refine a9 ?_
  go_wp2
  go_ret;exact⟨bU N.o.symm,du Q b⟩
 rcases q3:ap m u with _|_
 .rw[q1]at L;rw[q2]at R;rw[q3]at V;have N:Hx (eA zs xs ts r m u=false):=ae (by simp[eA,q3])
  go_in
  go_wp2
  generalize((w.alloc (.cells #[.slice A zs c,.slice B xs d] 28)).alloc (.cells #[.slice C ts y,.slice D r d'] 28)).alloc (.cells #[.slice E m I,.slice F u J] 28)=W0 at*;have l:Hx (∀w':World,Below (W0).1.size (W0) w'->Below (W0).1.size (W0) w'/\w'.cell? (w.1.size,0)=some (.slice A zs c)/\w'.cell? (w.1.size,1)=some (.slice B xs d)/\w'.cell? (w.1.size+1,0)=some (.slice C ts y)/\w'.cell? (w.1.size+1,1)=some (.slice D r d')/\w'.cell? (w.1.size+1+1,0)=some (.slice E m I)/\w'.cell? (w.1.size+1+1,1)=some (.slice F u J)):=λw' j=>⟨j,(k1.keep j).cell 0,(k1.keep j).cell 1,(k2.keep j).cell 0,(k2.keep j).cell 1,(U.keep j).cell 0,(U.keep j).cell 1⟩;refine wp_region_held_drew (S:=λw'=>Below (W0).1.size (W0) w'/\w'.cell? (w.1.size,0)=some (.slice A zs c)/\w'.cell? (w.1.size,1)=some (.slice B xs d)/\w'.cell? (w.1.size+1,0)=some (.slice C ts y)/\w'.cell? (w.1.size+1,1)=some (.slice D r d')/\w'.cell? (w.1.size+1+1,0)=some (.slice E m I)/\w'.cell? (w.1.size+1+1,1)=some (.slice F u J)) ao (l.o _ (aV _ _).drew) (λhHeld=>?_);have b:Below (W0).1.size (W0) (W0).drew:=(aV _ _).drew;refine oA 0 ?_;refine aK 1 λK hK=>?_;go_simp;refine(L.o _ (M.below b)).mono ?_;rintro e w1 ⟨rfl,hb⟩;replace b:=du b hb;refine hK.out _ _ (l.o _ b) (λhHeld=>?_)
  try dsimp only[Act.put,List.setIfInBounds_toArray,List.set_cons_zero,List.set_cons_succ]
  refine oA 2 ?_;refine oA 3 ?_;refine aK 4 λK hK=>?_;go_simp;refine(R.o _ (P.below b)).mono ?_;rintro e w2 ⟨rfl,hb⟩;replace b:=du b hb;refine hK.out _ _ (l.o _ b) (λhHeld=>?_)
  try dsimp only[Act.put,List.setIfInBounds_toArray,List.set_cons_zero,List.set_cons_succ]
  refine oA 5 ?_;refine oA 6 ?_;refine oA 7 ?_;refine aK 8 λK hK=>?_;go_simp;refine(V.o _ (X.below b)).mono ?_;rintro e w3 ⟨rfl,hb⟩;replace b:=du b hb;refine hK.out _ _ (l.o _ b) (λhHeld=>?_)
  try dsimp only[Act.put,List.setIfInBounds_toArray,List.set_cons_zero,List.set_cons_succ]
  refine oA 9 ?_;refine oA 10 ?_;refine fA 11 ?_;refine fA 12 ?_;refine fA 13 ?_;refine fA 14 ?_;refine fA 15 ?_;refine fA 16 ?_;refine fA 17 ?_;refine fA 18 ?_;refine oA 19 ?_;refine oA 20 ?_;refine fA 21 ?_;refine fA 22 ?_;refine fA 23 ?_;refine fA 24 ?_;refine fA 25 ?_;refine fA 26 ?_;refine fA 27 ?_;refine fA 28 ?_;refine oA 29 ?_;refine oA 30 ?_;refine a9 ?_
  go_wp2
  go_ret;exact⟨bU N.o.symm,du Q b⟩
 have ui:zs.length=2:=by simp[mF]at q1;exact q1.2
 obtain⟨z0,z1,rfl⟩:∃z0 z1,zs=[z0,z1]:=by
  match zs,ui with
  |[z0,z1],_=>exact⟨z0,z1,rfl⟩
 obtain⟨G,oa,rfl,O,Y⟩:=M 0 z0 rfl;have Z:=M.all (k:=1) (z:=z1) rfl;by_cases q4:ts=[z0]
 .rw[q1]at L;rw[q2]at R;rw[q3]at V;have N:Hx (eA [z0,z1] xs ts r m u=((u.length:Int)==z1)):=ae (by rw[eA,q1,q2,q3,q4,tN];simp);have CE:=ae λ(g:Nat) (w':aa) (h:Rd w' C ts) (ho:Own w' g 3 [z0])=>qH C g y 1 ts [z0] w' T aD h ho.rd;rw[gC q4]at CE;clear q1 q2 q3 q4
  go_in
  go_wp2_with fail
  generalize((w.alloc (.cells #[.slice (some ⟨G,oa,none⟩) 2 c,.slice B xs d] 28)).alloc (.cells #[.slice C ts y,.slice D r d'] 28)).alloc (.cells #[.slice E m I,.slice F u J] 28)=W0 at*;obtain⟨t0,t1⟩:W0.cell? (G,oa)=some (.int .i64 z0)/\W0.cell? (G,oa+1)=some (.int .i64 z1):=⟨Y,Z⟩;have l:Hx (∀w':World,Below (W0).1.size (W0) w'->Below (W0).1.size (W0) w'/\w'.cell? (w.1.size,0)=some (.slice (some ⟨G,oa,none⟩) 2 c)/\w'.cell? (w.1.size,1)=some (.slice B xs d)/\w'.cell? (w.1.size+1,0)=some (.slice C ts y)/\w'.cell? (w.1.size+1,1)=some (.slice D r d')/\w'.cell? (w.1.size+1+1,0)=some (.slice E m I)/\w'.cell? (w.1.size+1+1,1)=some (.slice F u J)/\w'.cell? (G,oa)=some (.int .i64 z0)/\w'.cell? (G,oa+1)=some (.int .i64 z1)):=ae (λw' j=>⟨j,(k1.keep j).cell 0,(k1.keep j).cell 1,(k2.keep j).cell 0,(k2.keep j).cell 1,(U.keep j).cell 0,(U.keep j).cell 1,(j.cell (p:=⟨_,_,_⟩) O).trans t0,(j.cell (p:=⟨_,_,_⟩) O).trans t1⟩);refine wp_region_held_drew (S:=λw'=>Below (W0).1.size (W0) w'/\w'.cell? (w.1.size,0)=some (.slice (some ⟨G,oa,none⟩) 2 c)/\w'.cell? (w.1.size,1)=some (.slice B xs d)/\w'.cell? (w.1.size+1,0)=some (.slice C ts y)/\w'.cell? (w.1.size+1,1)=some (.slice D r d')/\w'.cell? (w.1.size+1+1,0)=some (.slice E m I)/\w'.cell? (w.1.size+1+1,1)=some (.slice F u J)/\w'.cell? (G,oa)=some (.int .i64 z0)/\w'.cell? (G,oa+1)=some (.int .i64 z1)) ao (l.o _ (aV _ _).drew) (λhHeld=>?_);have b:Below (W0).1.size (W0) (W0).drew:=(aV _ _).drew;refine oA 0 ?_;refine aK 1 λK hK=>?_;go_simp;refine(L.o _ (M.below b)).mono ?_;rintro e w1 ⟨rfl,hb⟩;replace b:=du b hb;refine hK.out _ _ (l.o _ b) (λhHeld=>?_)
  try dsimp only[Act.put,List.setIfInBounds_toArray,List.set_cons_zero,List.set_cons_succ]
  refine oA 2 ?_;refine oA 3 ?_;refine aK 4 λK hK=>?_;go_simp;refine(R.o _ (P.below b)).mono ?_;rintro e w2 ⟨rfl,hb⟩;replace b:=du b hb;refine hK.out _ _ (l.o _ b) (λhHeld=>?_)
  try dsimp only[Act.put,List.setIfInBounds_toArray,List.set_cons_zero,List.set_cons_succ]
  refine oA 5 ?_;refine oA 6 ?_;refine oA 7 ?_;refine aK 8 λK hK=>?_;go_simp;refine(V.o _ (X.below b)).mono ?_;rintro e w3 ⟨rfl,hb⟩;replace b:=du b hb;refine hK.out _ _ (l.o _ b) (λhHeld=>?_)
  try dsimp only[Act.put,List.setIfInBounds_toArray,List.set_cons_zero,List.set_cons_succ]
  refine oA 9 ?_;refine oA 10 ?_;refine oA 11 ?_;refine oA 12 ?_;refine oA 13 ?_;refine oA 14 ?_;refine oA 15 ?_;refine oA 16 ?_;refine aK 17 λK hK=>?_;go_simp;replace b:=b.alloc b.size (.cells #[.int .i64 z0] 3);refine hK.out _ _ (l.o _ b) (λhHeld=>?_)
  try dsimp only[Act.put,List.setIfInBounds_toArray,List.set_cons_zero,List.set_cons_succ]
  refine aK 18 λK hK=>?_;go_simp;refine(CE.o _ _ (P.below b) (Db w3 3 [z0] #[.int .i64 z0] rfl)).mono ?_;rintro e w4 ⟨rfl,hb⟩;replace b:=du b hb;refine hK.out _ _ (l.o _ b) (λhHeld=>?_)
  try dsimp only[Act.put,List.setIfInBounds_toArray,List.set_cons_zero,List.set_cons_succ]
  refine oA 19 ?_;refine oA 20 ?_;refine oA 21 ?_;refine oA 22 ?_;refine oA 23 ?_;refine oA 24 ?_;refine oA 25 ?_;refine oA 26 ?_;refine oA 27 ?_;refine oA 28 ?_;refine oA 29 ?_;refine oA 30 ?_;refine a9 ?_
  go_wp2
  go_ret;exact⟨bU N.o.symm,du Q b⟩
 .rw[q1]at L;rw[q2]at R;rw[q3]at V;have N:Hx (eA [z0,z1] xs ts r m u=false):=ae (by simp[eA,q4]);have CE:=ae λ(g:Nat) (w':aa) (h:Rd w' C ts) (ho:Own w' g 3 [z0])=>qH C g y 1 ts [z0] w' T aD h ho.rd;rw[gD q4]at CE
  go_in
  go_wp2
  generalize((w.alloc (.cells #[.slice (some ⟨G,oa,none⟩) 2 c,.slice B xs d] 28)).alloc (.cells #[.slice C ts y,.slice D r d'] 28)).alloc (.cells #[.slice E m I,.slice F u J] 28)=W0 at*;obtain⟨t0,t1⟩:W0.cell? (G,oa)=some (.int .i64 z0)/\W0.cell? (G,oa+1)=some (.int .i64 z1):=⟨Y,Z⟩;have l:Hx (∀w':World,Below (W0).1.size (W0) w'->Below (W0).1.size (W0) w'/\w'.cell? (w.1.size,0)=some (.slice (some ⟨G,oa,none⟩) 2 c)/\w'.cell? (w.1.size,1)=some (.slice B xs d)/\w'.cell? (w.1.size+1,0)=some (.slice C ts y)/\w'.cell? (w.1.size+1,1)=some (.slice D r d')/\w'.cell? (w.1.size+1+1,0)=some (.slice E m I)/\w'.cell? (w.1.size+1+1,1)=some (.slice F u J)/\w'.cell? (G,oa)=some (.int .i64 z0)/\w'.cell? (G,oa+1)=some (.int .i64 z1)):=ae (λw' j=>⟨j,(k1.keep j).cell 0,(k1.keep j).cell 1,(k2.keep j).cell 0,(k2.keep j).cell 1,(U.keep j).cell 0,(U.keep j).cell 1,(j.cell (p:=⟨_,_,_⟩) O).trans t0,(j.cell (p:=⟨_,_,_⟩) O).trans t1⟩);refine wp_region_held_drew (S:=λw'=>Below (W0).1.size (W0) w'/\w'.cell? (w.1.size,0)=some (.slice (some ⟨G,oa,none⟩) 2 c)/\w'.cell? (w.1.size,1)=some (.slice B xs d)/\w'.cell? (w.1.size+1,0)=some (.slice C ts y)/\w'.cell? (w.1.size+1,1)=some (.slice D r d')/\w'.cell? (w.1.size+1+1,0)=some (.slice E m I)/\w'.cell? (w.1.size+1+1,1)=some (.slice F u J)/\w'.cell? (G,oa)=some (.int .i64 z0)/\w'.cell? (G,oa+1)=some (.int .i64 z1)) ao (l.o _ (aV _ _).drew) (λhHeld=>?_);have b:Below (W0).1.size (W0) (W0).drew:=(aV _ _).drew;refine oA 0 ?_;refine aK 1 λK hK=>?_;go_simp;refine(L.o _ (M.below b)).mono ?_;rintro e w1 ⟨rfl,hb⟩;replace b:=du b hb;refine hK.out _ _ (l.o _ b) (λhHeld=>?_)
  try dsimp only[Act.put,List.setIfInBounds_toArray,List.set_cons_zero,List.set_cons_succ]
  refine oA 2 ?_;refine oA 3 ?_;refine aK 4 λK hK=>?_;go_simp;refine(R.o _ (P.below b)).mono ?_;rintro e w2 ⟨rfl,hb⟩;replace b:=du b hb;refine hK.out _ _ (l.o _ b) (λhHeld=>?_)
  try dsimp only[Act.put,List.setIfInBounds_toArray,List.set_cons_zero,List.set_cons_succ]
  refine oA 5 ?_;refine oA 6 ?_;refine oA 7 ?_;refine aK 8 λK hK=>?_;go_simp;refine(V.o _ (X.below b)).mono ?_;rintro e w3 ⟨rfl,hb⟩;replace b:=du b hb;refine hK.out _ _ (l.o _ b) (λhHeld=>?_)
  try dsimp only[Act.put,List.setIfInBounds_toArray,List.set_cons_zero,List.set_cons_succ]
  refine oA 9 ?_;refine oA 10 ?_;refine oA 11 ?_;refine oA 12 ?_;refine oA 13 ?_;refine oA 14 ?_;refine oA 15 ?_;refine oA 16 ?_;refine aK 17 λK hK=>?_;go_simp;replace b:=b.alloc b.size (.cells #[.int .i64 z0] 3);refine hK.out _ _ (l.o _ b) (λhHeld=>?_)
  try dsimp only[Act.put,List.setIfInBounds_toArray,List.set_cons_zero,List.set_cons_succ]
  refine aK 18 λK hK=>?_;go_simp;refine(CE.o _ _ (P.below b) (Db w3 3 [z0] #[.int .i64 z0] rfl)).mono ?_;rintro e w4 ⟨rfl,hb⟩;replace b:=du b hb;refine hK.out _ _ (l.o _ b) (λhHeld=>?_)
  try dsimp only[Act.put,List.setIfInBounds_toArray,List.set_cons_zero,List.set_cons_succ]
  refine oA 19 ?_;refine oA 20 ?_;refine fA 21 ?_;refine fA 22 ?_;refine fA 23 ?_;refine fA 24 ?_;refine fA 25 ?_;refine fA 26 ?_;refine fA 27 ?_;refine fA 28 ?_;refine oA 29 ?_;refine oA 30 ?_;refine a9 ?_
  go_wp2
  go_ret;exact⟨bU N.o.symm,du Q b⟩
variable{i j k m n:Nat}{V gs xs ys:List Int}{x y z:Int}
def qI(n:Nat)(xs:au)(i:Nat):List Int:=(xs.drop (i*n)).take n
def FJ(h:xs.length=m*n)(hi:i<m):(qI n xs i).length=n:=by
 have:i*n+n<=m*n:=by rw[<-d5];exact cU _ hi
 simp[qI];omega
def O8(h:z∈qI n xs i):z∈xs:=dA (cE h)
def pF(xs e b:au)(i:Nat):Int:=bQ (uk ((qI b.length xs i).zip b)) (e.getD i 0)
def gZ(xs b e:au)(m:Nat):List Int:=(List.range m).map (pF xs b e)
def g0(xs b e)(m):(gZ xs b e m).length=m:=by simp[gZ]
def Cj(xs b e)(m):gZ xs b e (m+1)=gZ xs b e m++[pF xs b e m]:=by simp[gZ,g5]
def e2(f:Nat->List Int)(b:au)(k:Nat):List Int:=f k++b.drop k
def mG{f:Nat->List Int}(b:(f k).length=k)(e:V[k]?=some y):(e2 f V k)[k]?=some y:=by
 rw[e2,eE om,b,fe,fb];exact e
def kx{f:Nat->List Int}(b:(f k).length=k)(hs:f (k+1)=f k++[z])(e:ys[k]?=some y):(e2 f ys k).set k z=e2 f ys (k+1):=by
 have⟨hk,_⟩:=a8.1 e;rw[e2,lA _ _ om,b,fe,e2,hs,eO];congr 1;rw[ed hk,iS];rfl
def mc{f:Nat->List Int}(b:¬k<V.length):e2 f V k=f k:=by
 rw[e2,eF om,en]
def e4(gs b:au):List Int:=gs.flatMap λg=>b.map λv=>bN g v
def sw(gs b):(e4 gs b).length=gs.length*b.length:=by
 induction gs with
 |nil=>simp[e4]
 |cons g gs e=>
  rw[e4]at e;simp only[e4,g6,bh,bj,dj,e,d5];omega
def O9{g v:Int}(hg:gs[i]?=some g)(hv:V[j]?=some v):(e4 gs V)[i*V.length+j]?=some (bN g v):=by
 induction gs generalizing i with
 |nil=>simp at hg
 |cons a gs b=>
  have e:j<V.length:=(a8.1 hv).1;simp only[e4,g6];cases i with
  |zero=>
   simp at hg;subst hg;rw[e6,cf,lK (by simpa using e),bf,hv];rfl
  |succ i=>
   simp at hg;rw[eE (by simp[d5];omega),bj,show(i+1)*V.length+j-V.length=i*V.length+j from by rw[d5];omega];exact b hg
def lH(n:Nat)(xs gs:au)(j m:Nat):Int:=(List.range m).foldl (λs i=>bQ s (bN (xs.getD (i*n+j) 0) (gs.getD i 0))) 0
def K1{g:Int}(b:xs[m*n+j]?=some x)(hg:gs[m]?=some g):lH n xs gs j (m+1)=bQ (lH n xs gs j m) (bN x g):=by
 simp[lH,g5,aQ,b,hg]
def H0(n)(xs gs)(j m):bb (lH n xs gs j m):=by
 cases m with
 |zero=>simp[lH,bb]
 |succ m=>
  simp only[lH,g5,lN,jD,List.foldl_nil];exact hW _ _
def lD(n:Nat)(xs gs:au):List Int:=(List.range n).map λj=>lH n xs gs j gs.length
def fx(n:Nat)(xs gs:au)(k j:Nat):List Int:=(List.range n).map λt=>lH n xs gs t (if t<j then k+1 else k)
def H1(b:j<n):(fx n xs gs k j)[j]?=some (lH n xs gs j k):=by
 simp[fx,b]
def FK{g:Int}(e:j<n)(l:xs[k*n+j]?=some x)(hg:gs[k]?=some g):
  (fx n xs gs k j).set j (bQ (lH n xs gs j k) (bN x g))=fx n xs gs k (j+1):=by
 apply fZ;intro i;rw[iD];by_cases hi:j=i
 .subst hi;simp[fx,e,K1 l hg]
 .rw[ag hi];simp only[fx,bf];by_cases b:i<n
  .simp only[ih b,yq];by_cases h:i<j
   .rw[ah h,ah om]
   .rw[ag h,ag om]
  .rw[fc (by simpa using b)];rfl
def FL(n)(xs gs)(k):fx n xs gs k n=fx n xs gs (k+1) 0:=by
 apply iA;intro t ht;rw[iU]at ht;rw[ah ht,ag om]
def Ck(n)(xs gs):fx n xs gs 0 0=List.replicate n 0:=by
 rw[x9];refine⟨by simp[fx],λz b=>?_⟩;obtain⟨t,_,rfl⟩:=bw.1 b;simp[lH]
def FM(n)(xs gs):fx n xs gs gs.length 0=lD n xs gs:=by simp[fx,lD]
def Cm{l:au}{p:Nat}(h:l[p]?=some z):l.take (p+1)=l.take p++[z]:=by
 have⟨hp,e⟩:=a8.1 h;rw[xP hp,e]
section
variable{P:Program}{args:Array Value}{w:World}{v:Value}{b off:Nat}{O Y zs:List Int}
section
section
variable{f:FuncId}
def K2(h:Calls P f args w λe w'=>e=.returned v/\w=w'):Calls P f args w (ov w v):=h.mono λ_ _ ⟨b,j⟩=>⟨b,j▸aV _ _⟩
def K3{n:Int}(h:Calls P f args w (wJ w n)):Calls P f args w (ov w n):=h.mono λ_ _ ⟨b,m,e⟩=>⟨b,e▸below_drewN (aV _ _) m⟩
end
def vC(A:bF)(b off c d M N i S:Nat)(xs:au)(w:aa)(hd:xs.length<=d)(l:M<=1024)(hN:N<=1024)(e:1<=N)(m:Hx (xs.length=M*N))(j:xs.length<=65536)(hi:i<M)(hS:Hx (i*N=S))(h:Rd w A [(M:Int),(N:Int)]):
  () 169 #[.agg #[(A,2,c),.slice (some ⟨b,off,none⟩) xs d],i] w (ov w (.slice (some ⟨b,off+S,none⟩) N N)):=
 (XH A b off c d M N i S xs w hd l hN e m j hi hS h).mono λ_ _ ⟨r,u⟩=>⟨r,u▸(aV _ _).alloc (al _) _⟩
def Rd.row(h:Rd w (some ⟨b,off,none⟩) xs)(n i:Nat):Rd w (some ⟨b,off+i*n,none⟩) (qI n xs i):=by
 intro j z l;have m:xs[i*n+j]?=some z:=by
  rw[qI,eG]at l
  split at l
  .rwa[fb]at l
  .cases l
 obtain⟨C,r,e,hb,u⟩:=h _ _ m;injection e with e;injection e with y B;subst y;subst B
 exact⟨b,off+i*n,rfl,hb,by rw[lM];exact u⟩
def wR{ts:au}(h:eA zs xs ts V O Y=true):
  ∃M N:Nat,zs=[(M:Int),(N:Int)]/\ts=[(M:Int)]/\xs.length=M*N/\V.length=M/\Y.length=N/\1<=M/\1<=N/\M<=1024/\N<=1024/\xs.length<=65536/\ap zs xs=true/\ap ts V=true/\ap O Y=true:=by
 simp only[eA,mF,bK,bZ]at h;have⟨⟨⟨⟨⟨h1,h2⟩,h3⟩,h4⟩,h5⟩,h6⟩:=h;obtain⟨z0,z1,rfl⟩:∃z0 z1,zs=[z0,z1]:=by
  match zs,h2 with
  |[z0,z1],_=>exact⟨z0,z1,rfl⟩
 have⟨g1,g2⟩:=(aN _ _).1 h1;have⟨k1,k2⟩:=(aN _ _).1 h3;obtain⟨-,-,b,e⟩:=(a2 _).1 g1;have a0:=b0 b (z:=z0) aD;have j:=b0 b (z:=z1) aD;obtain⟨M,rfl,l⟩:=k4 a0.1;obtain⟨N,rfl,hN⟩:=k4 j.1;simp at h5 h6;subst h5;simp[ax]at g2 k2 e;have m:xs.length=M*N:=by exact_mod_cast g2
 exact⟨M,N,rfl,rfl,m,om,om,l,hN,om,om,om,h1,h3,h4⟩
def Pa(A B C D E F:bF)(c d c' d' e' T:Nat)(zs xs ts j U u:au)(w:aa)(hd:xs.length<=d)(sW:U.length<=1000000)(h1:Rd w A zs)(h2:Rd w B xs)(h3:Rd w C ts)(h4:Rd w D j)(h5:Rd w E U)(h6:Rd w F u)(hx:Hx (∀z∈xs,bb z))(hy:Hx (∀z∈j,bb z))(hv:Hx (∀z∈u,bb z))(hr:Hx (eA zs xs ts j U u=true)):
  () 158 #[.agg #[.slice A zs c,.slice B xs d],.agg #[.slice C ts c',.slice D j d'],.agg #[.slice E U e',.slice F u T]] w (fH w ts (gZ xs j u j.length) 0):=by
 obtain⟨M,N,rfl,rfl,V,tZ,pp,B7,B8,hM,hN,zq,-,-,-⟩:=wR hr.o;have n7:=ae V;have HYL:=ae tZ;have Cn:=ae pp;have hyM:j.length<=1024:=om;have hvN:u.length<=1024:=om;have ug:0<xs.length:=by rw[V];exact jK B7 B8
 obtain⟨bx,ox,x0,rfl,-,-,-⟩:=h2.get (k:=0) ug;clear V tZ pp;have kW:=az.new w 28 #[(A,2,c),.slice (some ⟨bx,ox,none⟩) xs d];have kB:=az.ew (w.alloc (.cells #[(A,2,c),.slice (some ⟨bx,ox,none⟩) xs d] 28)) 28 #[(C,1,c'),.slice D j d'] (n:=w.1.size+1) aD;have kX:=az.ew ((w.alloc (.cells #[(A,2,c),.slice (some ⟨bx,ox,none⟩) xs d] 28)).alloc (.cells #[(C,1,c'),.slice D j d'] 28)) 28 #[.slice E U e',.slice F u T] (n:=w.1.size+1+1) aD;have kR:=az.ew (((w.alloc (.cells #[(A,2,c),.slice (some ⟨bx,ox,none⟩) xs d] 28)).alloc (.cells #[(C,1,c'),.slice D j d'] 28)).alloc (.cells #[.slice E U e',.slice F u T] 28)) 28 #[(),()] (n:=w.1.size+1+1+1) aD
 go_in
 go_wp2_with fail
 refine(HZ A (some ⟨bx,ox,none⟩) C D E F c d c' d' e' T [(M:Int),(N:Int)] xs [(M:Int)] j U u _ aD aD sW h1.at h3.at h5.at).mono ?_;rintro e w1 ⟨rfl,hb⟩;have vD:=aj.mk hb;clear hb;rw[hr.o];have zb:=(kR.at (w':=w1)).lt;obtain⟨q0,q1⟩:=bI (kB.at (w':=w1))
 go_wp2_with fail
 clear q0 q1;refine(pg C D c' d' [(M:Int)] j _ aD om h3.at h4.at).mono ?_;rintro e X ⟨g,G,rfl,hg,zr,ho,Y,hb⟩;have Xo:=aj.mk hb;clear hb;have vE:=Y.lt;obtain⟨q0,q1⟩:=bI ((kB.at (w':=X)).alloc (.cells #[(g,1,1),.slice G j j.length] 28))
 go_wp2_with fail
 clear q0 q1;have kO:=az.new X 28 #[(g,1,1),.slice G j j.length];have hoW:=Y.alloc (.cells #[(g,1,1),.slice G j j.length] 28);have pW:=aj.alloc X (.cells #[(g,1,1),.slice G j j.length] 28);generalize X.alloc (.cells #[(g,1,1),.slice G j j.length] 28)=W at*;go_loopw [22] (λi wr=>∃k:Nat,k<=j.length/\i=.int .i64 k/\Aside G W wr/\Own wr G 65 (e2 (gZ xs j u) j k)/\Below w.1.size w wr) (λi _=>j.length-(intOf i).toNat)
 case atStart=>exact⟨0,aM _,rfl,Aside.refl _ _,hoW,aP w W⟩
 case round=>
  obtain⟨k,hk,rfl,J,hO,P⟩:=hrel;have n1:w.1.size≠G:=om;have n2:w.1.size+1+1≠G:=om;have n3:w.1.size+1+1+1≠G:=om;have n4:X.1.size≠G:=om;have Q:w.1.size<=G:=om;have mR:=J.ak (kR.at (w':=W)) n3;have mO:=J.ak kO n4;by_cases Z:k<j.length
  .have mW:=J.ak (kW.at (w':=W)) n1;have mX:=J.ak (kX.at (w':=W)) n2;have r1:=J.fT h1 (h1.at (w':=W)) Q;have r2:=J.fT h2 (h2.at (w':=W)) Q;have r6:=J.fT h6 (h6.at (w':=W)) Q;obtain⟨b,off,y,rfl,hb4,hc4,L⟩:=(J.fT h4 (h4.at (w':=W)) Q).get Z;obtain⟨S,hS⟩:∃S,Hx (k*N=S):=⟨_,ae rfl⟩;have Pb:k<M:=by rw[<-HYL.o];exact Z
   have hrl:(qI N xs k).length=N:=FJ n7.o Pb;have CL:=ae λ(w':aa) (h:Rd w' A [(M:Int),(N:Int)])=>vC A bx ox c d M N k S xs w' hd hM hN B8 n7 zq Pb hS h;have CD:=ae λ(w':aa) (ha:Rd w' (some ⟨bx,ox+S,none⟩) (qI N xs k)) (hb:Rd w' F u)=>K3 (SD (some ⟨bx,ox+S,none⟩) F N T (qI N xs k) u w' om om (ae λz hz=>hx.o z (O8 hz)) hv ha hb);rw[hrl]at CD;have CA:=ae λ(w':aa)=>K2 (mm (uk ((qI N xs k).zip u)) y w' (zo _) (hy.o y (aC L.o)));have HG:Hx (bQ (uk ((qI N xs k).zip u)) y=pF xs j u k):=ae (by
    unfold pF;rw[Cn.o,aQ,L.o];rfl)
   rw[HG.o]at CA;have S7:=ae (mG (f:=gZ xs j u) (g0 xs j u k) L.o);have S8:=ae (kx (f:=gZ xs j u) (g0 xs j u k) (Cj xs j u k) L.o);clear hrl
   go_wp2
   have I:Hx (∀w':World,Aside G (wr) w'->w'.cell? (X.1.size,1)=some (.slice G j j.length)/\w'.cell? (w.1.size,0)=some (.slice A 2 c)/\w'.cell? (w.1.size,1)=some (.slice (some ⟨bx,ox,none⟩) xs d)/\w'.cell? (w.1.size+1+1,1)=some (.slice F u T)):=λw' O=>⟨(O.ak mO n4).cell 1,(O.ak mW n1).cell 0,(O.ak mW n1).cell 1,(O.ak mX n2).cell 1⟩;refine wp_region_held_drew (S:=λw'=>w'.cell? (X.1.size,1)=some (.slice G j j.length)/\w'.cell? (w.1.size,0)=some (.slice A 2 c)/\w'.cell? (w.1.size,1)=some (.slice (some ⟨bx,ox,none⟩) xs d)/\w'.cell? (w.1.size+1+1,1)=some (.slice F u T)) ao (I.o _ (Aside.refl _ _).drew) (λhHeld=>?_);have l:Aside G (wr) (wr).drew:=(Aside.refl _ _).drew;have m:=(hO).drew;have r:=(P).drew;refine oA 0 ?_;refine oA 1 ?_;refine oA 2 ?_;refine oA 3 ?_;refine oA 4 ?_;refine oA 6 ?_;refine oA 7 ?_;refine oA 9 ?_;refine aK 5 λK hK=>?_;go_simp;refine(CL.o _ (l.fT h1 r1 Q)).mono ?_;rintro e w3 ⟨rfl,hb⟩;replace l:=l.below hb;replace m:=m.keep hb;replace r:=du r hb;refine hK.out _ _ (I.o _ l) (λhHeld=>?_)
   try dsimp only[Act.put,List.setIfInBounds_toArray,List.set_cons_zero,List.set_cons_succ]
   have R:=(l.fT h2 r2 Q).row N k;rw[hS.o]at R;refine aK 8 λK hK=>?_;go_simp;refine(CD.o _ R (l.fT h6 r6 Q)).mono ?_;rintro e w4 ⟨rfl,hb⟩;replace l:=l.below hb;replace m:=m.keep hb;replace r:=du r hb;refine hK.out _ _ (I.o _ l) (λhHeld=>?_)
   try dsimp only[Act.put,List.setIfInBounds_toArray,List.set_cons_zero,List.set_cons_succ]
   refine aK 10 λK hK=>?_;go_simp;refine(CA.o _).mono ?_;rintro e w5 ⟨rfl,hb⟩;replace l:=l.below hb;replace m:=m.keep hb;replace r:=du r hb;refine hK.out _ _ (I.o _ l) (λhHeld=>?_)
   try dsimp only[Act.put,List.setIfInBounds_toArray,List.set_cons_zero,List.set_cons_succ]
   refine oA 11 ?_;have hc:=m.cell (S7.o);have hf:=m.frozen (k);refine aK 12 λK hK=>?_;go_simp;replace l:=l.av (k) (pF xs j u k:Int);replace m:=m.av (k) (pF xs j u k);replace r:=r.setCell (p:=⟨_,k,none⟩) (Q) (pF xs j u k:Int);refine hK.out _ _ (I.o _ l) (λhHeld=>?_)
   try dsimp only[Act.put,List.setIfInBounds_toArray,List.set_cons_zero,List.set_cons_succ]
   refine a9 ?_
   go_wp2
   rw[S8.o]at m;go_roundw
   case rel=>exact⟨k+1,om,by go_num,J.trans l,m,r⟩
   case measure=>exact nT
  .rw[mc Z]at hO;have e:k=j.length:=om;subst e;have HO:=ae hO;have o1:=J.own (ho.at (w':=W)) (ho.aH (cs:=ints j) Y am);have⟨p0,p1⟩:=bI mO;have⟨q0,q1⟩:=bI mR;have f0:=mR.frozen 0;have f1:=mR.frozen 1;have l1:=o1.aH mR am;have l2:=HO.o.aH mR am
   go_wp2
   have k3:=mR.bP (g,1,1) (.slice G j j.length);have B3:=br P (p:=w.1.size+1+1+1) om (g,1,1) (.slice G j j.length);have o3:=o1.bA l1 (g,1,1) (.slice G j j.length);have o4:=HO.o.bA l2 (g,1,1) (.slice G j j.length);have⟨q0,q1⟩:=bI k3;refine aX (v:=.tuple #[.agg #[(g,1,1),.slice G j j.length],an]) (by simp[results,results158,go_sem,q0,q1]) rfl ?_;exact fH.yes om om aD (by rw[g0];omega) o3 o4 B3 _ (by rw[g0];rfl)
end
end
variable{W w w' wr:World}{g:Nat}{T:TypeId}{v0 v1 v3 v4 v5:Value}{zs:List Int}
def zI{b:Value}(h:az w g T #[v0,v1,b,v3,v4,v5]):
  w.cell? (g,0)=some v0/\w.cell? (g,1)=some v1/\w.cell? (g,2)=some b/\w.cell? (g,3)=some v3/\w.cell? (g,4)=some v4/\w.cell? (g,5)=some v5:=
 ⟨h.cell 0,h.cell 1,h.cell 2,h.cell 3,h.cell 4,h.cell 5⟩
def World.wS(w:aa)(g:Nat)(v0 b e v3 v4 j:Value):World:=(((((w.setCell (g,0) v0).setCell (g,1) b).setCell (g,2) e).setCell (g,3) v3).setCell (g,4) v4).setCell (g,5) j
def az.wS{a b c d e f:Value}(h:az w g T #[a,b,c,d,e,f])(v0 j l v3 v4 m:Value):
  az ((((((w.setCell (g,0) v0).setCell (g,1) j).setCell (g,2) l).setCell (g,3) v3).setCell (g,4) v4).setCell (g,5) m) g T #[v0,j,l,v3,v4,m]:=
 (((((h.av 0 v0).av 1 j).av 2 l).av 3 v3).av 4 v4).av 5 m
def mH{p:Nat}(h:Below n w w')(hp:n<=p)(v0 b e v3 v4 j:Value):
  Below n w ((((((w'.setCell (p,0) v0).setCell (p,1) b).setCell (p,2) e).setCell (p,3) v3).setCell (p,4) v4).setCell (p,5) j):=
 (((((h.setCell (p:=⟨p,0,none⟩) hp v0).setCell (p:=⟨p,1,none⟩) hp b).setCell (p:=⟨p,2,none⟩) hp e).setCell (p:=⟨p,3,none⟩) hp v3).setCell (p:=⟨p,4,none⟩) hp v4).setCell (p:=⟨p,5,none⟩) hp j
def jX{p:Nat}(v0 b e v3 v4 j:Value):
  ik [p] w ((((((w.setCell (p,0) v0).setCell (p,1) b).setCell (p,2) e).setCell (p,3) v3).setCell (p,4) v4).setCell (p,5) j):=
 have m:p∈[p]:=aD
 ((((((ik.refl [p] w).av m 0 v0).av m 1 b).av m 2 e).av m 3 v3).av m 4 v4).av m 5 j
def ik.hz{p:Nat}(h:ik [p] W wr)(hb:Own W k T zs)(b:k≠p):Own wr k T zs:=h.own hb (by simpa using b)
def zJ(zs xs ts b e j ps gs:au):Bool:=eA zs xs ts b e j&&ap ps gs&&decide (ps=ts)
def XJ(w:aa)(zs xs ts r u y:au)(E:Int)(e:Ending)(w':aa):Prop:=
 ∃A c B d z C D d' b j l m,e=.returned (.tuple #[.agg #[.slice A zs c,.slice B xs d,.slice z ts C,.slice D r d',.slice b u j,.slice l y m],E])/\
  aB w' w.1.size 3 A c zs/\aB w' w.1.size 65 B d xs/\aB w' w.1.size 3 z C ts/\aB w' w.1.size 65 D d' r/\aB w' w.1.size 3 b j u/\aB w' w.1.size 65 l m y/\Below w.1.size w w'
def H2(A B C D E F G H:bF)(c d c' d' e' f' g' h':Nat)(zs xs ts ys y m ps gs:au)(w:aa)(hd:xs.length<=d)(sW:y.length<=1000000)(h1:Rd w A zs)(h2:Rd w B xs)(h3:Rd w C ts)(h5:Rd w E y)(h6:Rd w F m)(h7:Rd w G ps)(h8:Rd w H gs)(hx:Hx (∀z∈xs,bb z))(hv:Hx (∀z∈m,bb z))(hg:Hx (∀z∈gs,bb z))(hr:Hx (zJ zs xs ts ys y m ps gs=true)):
  () 105 #[.agg #[.slice A zs c,.slice B xs d],.agg #[.slice C ts c',.slice D ys d'],.agg #[.slice E y e',.slice F m f'],.agg #[.slice G ps g',.slice H gs h']] w (XJ w zs (e4 gs m) ts gs y (lD m.length xs gs) 0):=by
 obtain⟨Q1,Q2,Q3⟩:Hx (eA zs xs ts ys y m=true)/\Hx (ap ps gs=true)/\Hx (ps=ts):=by
  have:=hr.o;simp only[zJ,bK,bZ]at this;exact⟨this.1.1,this.1.2,this.2⟩
 obtain⟨M,N,rfl,rfl,jQ,tZ,pp,B7,B8,hM,hN,zq,-,-,-⟩:=wR Q1.o;have n6:gs.length=M:=by
  have:=((aN _ _).1 Q2.o).2;rw[Q3.o]at this;simp[ax]at this;omega
 have Y:=Q3.o;subst Y;have n7:=ae jQ;have Cn:=ae pp;have S9:=ae n6;have hgM:gs.length<=1024:=om;have hvN:m.length<=1024:=om;have K4:0<m.length:=om;have ug:0<xs.length:=by rw[jQ];exact jK B7 B8
 obtain⟨bx,ox,x0,rfl,-,-,-⟩:=h2.get (k:=0) ug;have T:Hx ((e4 gs m).length=xs.length):=ae (by rw[sw,n6,pp,jQ]);clear jQ tZ pp n6 Q3;have kW:=az.new w 28 #[(A,2,c),.slice (some ⟨bx,ox,none⟩) xs d];have kB:=az.ew (w.alloc (.cells #[(A,2,c),.slice (some ⟨bx,ox,none⟩) xs d] 28)) 28 #[(C,1,c'),.slice D ys d'] (n:=w.1.size+1) aD;have kX:=az.ew ((w.alloc (.cells #[(A,2,c),.slice (some ⟨bx,ox,none⟩) xs d] 28)).alloc (.cells #[(C,1,c'),.slice D ys d'] 28)) 28 #[.slice E y e',.slice F m f'] (n:=w.1.size+1+1) aD;have kG:=az.ew (((w.alloc (.cells #[(A,2,c),.slice (some ⟨bx,ox,none⟩) xs d] 28)).alloc (.cells #[(C,1,c'),.slice D ys d'] 28)).alloc (.cells #[.slice E y e',.slice F m f'] 28)) 28 #[(G,1,g'),.slice H gs h'] (n:=w.1.size+1+1+1) aD;have kR:=az.ew ((((w.alloc (.cells #[(A,2,c),.slice (some ⟨bx,ox,none⟩) xs d] 28)).alloc (.cells #[(C,1,c'),.slice D ys d'] 28)).alloc (.cells #[.slice E y e',.slice F m f'] 28)).alloc (.cells #[(G,1,g'),.slice H gs h'] 28)) 201 #[(),(),(),(),(),()] (n:=w.1.size+1+1+1+1) aD
 go_in
 go_wp2_with fail
 refine(HZ A (some ⟨bx,ox,none⟩) C D E F c d c' d' e' f' [(M:Int),(N:Int)] xs [(M:Int)] ys y m _ aD aD sW h1.at h3.at h5.at).mono ?_;rintro e w1 ⟨rfl,hb⟩;have vD:=aj.mk hb;clear hb;rw[Q1.o];obtain⟨p0,p1⟩:=bI (kG.at (w':=w1))
 go_wp2_with fail
 refine(eJ G H g' h' [(M:Int)] gs _ aD h7.at).mono ?_;rintro e w2 ⟨rfl,hb⟩;have Xo:=aj.mk hb;clear hb;rw[Q2.o];clear p0 p1;obtain⟨p0,p1⟩:=bI (kG.at (w':=w2));obtain⟨q0,Z⟩:=bI (kB.at (w':=w2))
 go_wp2_with fail
 refine(qH G C g' c' [(M:Int)] [(M:Int)] _ aD aD h7.at h3.at).mono ?_;rintro e w3 ⟨rfl,hb⟩;have Pc:=aj.mk hb;clear hb;rw[show decide (([(M:Int)]:au)=[(M:Int)])=true from gC rfl];clear p0 p1 q0 Z;have t8:=(kR.at (w':=w3)).lt
 go_upto_region 3 with fail
 go_cut [10] (λs10 wx=>∃b0 a b c d e f:Nat,s10=.pointer b0/\az wx b0 201 #[(a,2,2),.slice b xs xs.length,(c,1,1),.slice d gs gs.length,.slice (some ⟨e,0,none⟩) y y.length,.slice f m m.length]/\
  Own wx a 3 [(M:Int),(N:Int)]/\Own wx b 65 xs/\Own wx c 3 [(M:Int)]/\Own wx d 65 gs/\Own wx e 3 y/\Own wx f 65 m/\w3.1.size<=a/\w3.1.size<=b/\w3.1.size<=c/\w3.1.size<=d/\w3.1.size<=e/\w3.1.size<=f/\w3.1.size<=b0/\b<d/\d<f/\Below w3.1.size w3 wx)
 case first=>
  have C1:=ae λ(w':aa) (ha:Rd w' A [(M:Int),(N:Int)]) (hb:Rd w' (some ⟨bx,ox,none⟩) xs)=>pg A (some ⟨bx,ox,none⟩) c d [(M:Int),(N:Int)] xs w' aD om ha hb;have C2:=ae λ(w':aa) (ha:Rd w' G [(M:Int)]) (hb:Rd w' H gs)=>pg G H g' h' [(M:Int)] gs w' aD om ha hb;have C3:=ae λ(w':aa) (ha:Rd w' E y) (hb:Rd w' F m)=>pg E F e' f' y m w' om om ha hb;have r:Hx (∀w':World,Below (w3).1.size (w3) w'->w'.cell? (w.1.size,0)=some (.slice A 2 c)/\w'.cell? (w.1.size,1)=some (.slice (some ⟨bx,ox,none⟩) xs d)/\w'.cell? (w.1.size+1+1,0)=some (.slice E y e')/\w'.cell? (w.1.size+1+1,1)=some (.slice F m f')/\w'.cell? (w.1.size+1+1+1,0)=some (.slice G 1 g')/\w'.cell? (w.1.size+1+1+1,1)=some (.slice H gs h')):=ae (λw' I=>⟨(kW.at.keep I).cell 0,(kW.at.keep I).cell 1,(kX.at.keep I).cell 0,(kX.at.keep I).cell 1,(kG.at.keep I).cell 0,(kG.at.keep I).cell 1⟩);refine wp_region_held_drew (S:=λw'=>w'.cell? (w.1.size,0)=some (.slice A 2 c)/\w'.cell? (w.1.size,1)=some (.slice (some ⟨bx,ox,none⟩) xs d)/\w'.cell? (w.1.size+1+1,0)=some (.slice E y e')/\w'.cell? (w.1.size+1+1,1)=some (.slice F m f')/\w'.cell? (w.1.size+1+1+1,0)=some (.slice G 1 g')/\w'.cell? (w.1.size+1+1+1,1)=some (.slice H gs h')) ao (r.o _ (ml)) (λ_=>?_);refine yL (λwD pwD=>?_);have hHeld:=r.o wD (ml);refine oA 0 ?_;refine oA 2 ?_;refine oA 4 ?_;refine qr 1 7 (λK hK=>?_) (λK hK=>?_)
  .go_simp;refine(C1.o _ h1.at h2.at).mono ?_;rintro e wA ⟨a,b,rfl,la,lb,oa,ob,hb⟩;dsimp only;have pwA:=aj.mk hb;clear hb;refine hK.out _ _ (r.o _ (ml)) (λhHeld=>?_)
   try dsimp only[Act.put,List.setIfInBounds_toArray,List.set_cons_zero,List.set_cons_succ]
   refine qr 3 7 (λK hK=>?_) (λK hK=>?_)
   .go_simp;refine(C2.o _ h7.at h8.at).mono ?_;rintro e U ⟨c2,V,rfl,lc,ld,R,O,hb⟩;dsimp only;have pwB:=aj.mk hb;clear hb;refine hK.out _ _ (r.o _ (ml)) (λhHeld=>?_)
    try dsimp only[Act.put,List.setIfInBounds_toArray,List.set_cons_zero,List.set_cons_succ]
    refine qr 5 7 (λK hK=>?_) (λK hK=>?_)
    focus
     go_simp;refine(C3.o _ h5.at h6.at).mono ?_;rintro e wC ⟨L,f2,rfl,le,lf,Q,of,hb⟩;dsimp only;have pwC:=aj.mk hb;clear hb;refine hK.out _ _ (r.o _ (ml)) (λhHeld=>?_)
     try dsimp only[Act.put,List.setIfInBounds_toArray,List.set_cons_zero,List.set_cons_succ]
     refine oA 6 ?_;refine aK 7 λK hK=>?_;go_simp;refine qt hK (λ_=>?_) (r.o _ (ml));refine nl (λu1 sQ l zu1=>?_);have hHeld:=r.o u1 (ml)
    rotate_left
    focus
     go_simp;refine qt hK (λ_=>?_) (r.o _ (ml));refine nl (λu1 sQ l zu1=>?_);have hHeld:=r.o u1 (ml);refine aK 5 λK hK=>?_;go_simp;refine(C3.o _ h5.at h6.at).mono ?_;rintro e wC ⟨L,f2,rfl,le,lf,Q,of,hb⟩;dsimp only;have pwC:=aj.mk hb;clear hb;refine hK.out _ _ (r.o _ (ml)) (λhHeld=>?_)
     try dsimp only[Act.put,List.setIfInBounds_toArray,List.set_cons_zero,List.set_cons_succ]
     refine oA 6 ?_
    all_goals
     refine aK 8 λK hK=>?_;rename World=>wN;obtain⟨q0,Z,q2,Y,q4,q5⟩:=zI (l.at (w':=wN));have y0:=(l.at (w':=wN)).frozen 0;have y1:=(l.at (w':=wN)).frozen 1;have y2:=(l.at (w':=wN)).frozen 2;have y3:=(l.at (w':=wN)).frozen 3;have y4:=(l.at (w':=wN)).frozen 4;have y5:=(l.at (w':=wN)).frozen 5
     skip
     go_simp;refine hK.out _ _ (r.o _ (mH (aP w3 wN) ai _ _ _ _ _ _)) (λhHeld=>?_)
     try dsimp only[Act.put,List.setIfInBounds_toArray,List.set_cons_zero,List.set_cons_succ]
     have n1:=bu ob.lt (aL (ai (w:=wA)) ld);have n2:=bu O.lt (aL (ai (w:=U)) lf);refine a9 ?_
     go_wp2_with fail
     go_meet
     exact⟨_,a,b,c2,V,L,f2,rfl,(l.at (w':=wN)).wS _ _ _ _ _ _,(jX _ _ _ _ _ _).hz (oa.at (w':=wN)) ((oa.at (w':=wN)).aH (l.at (w':=wN)) am),(jX _ _ _ _ _ _).hz (ob.at (w':=wN)) ((ob.at (w':=wN)).aH (l.at (w':=wN)) am),(jX _ _ _ _ _ _).hz (R.at (w':=wN)) ((R.at (w':=wN)).aH (l.at (w':=wN)) am),(jX _ _ _ _ _ _).hz (O.at (w':=wN)) ((O.at (w':=wN)).aH (l.at (w':=wN)) am),(jX _ _ _ _ _ _).hz (Q.at (w':=wN)) ((Q.at (w':=wN)).aH (l.at (w':=wN)) am),(jX _ _ _ _ _ _).hz (of.at (w':=wN)) ((of.at (w':=wN)).aH (l.at (w':=wN)) am),aL ai la,aL ai lb,aL ai lc,aL ai ld,aL ai le,aL ai lf,ai,n1,n2,mH (aP w3 wN) ai _ _ _ _ _ _⟩
   .go_simp;refine qt hK (λ_=>?_) (r.o _ (ml));refine nl (λu1 sQ l zu1=>?_);have hHeld:=r.o u1 (ml);refine aK 3 λK hK=>?_;go_simp;refine(C2.o _ h7.at h8.at).mono ?_;rintro e U ⟨c2,V,rfl,lc,ld,R,O,hb⟩;dsimp only;have pwB:=aj.mk hb;clear hb;refine hK.out _ _ (r.o _ (ml)) (λhHeld=>?_)
    try dsimp only[Act.put,List.setIfInBounds_toArray,List.set_cons_zero,List.set_cons_succ]
    refine aK 5 λK hK=>?_;go_simp;refine(C3.o _ h5.at h6.at).mono ?_;rintro e wC ⟨L,f2,rfl,le,lf,Q,of,hb⟩;dsimp only;have pwC:=aj.mk hb;clear hb;refine hK.out _ _ (r.o _ (ml)) (λhHeld=>?_)
    try dsimp only[Act.put,List.setIfInBounds_toArray,List.set_cons_zero,List.set_cons_succ]
    refine oA 6 ?_;refine aK 8 λK hK=>?_;rename World=>wN;obtain⟨q0,Z,q2,Y,q4,q5⟩:=zI (l.at (w':=wN));have y0:=(l.at (w':=wN)).frozen 0;have y1:=(l.at (w':=wN)).frozen 1;have y2:=(l.at (w':=wN)).frozen 2;have y3:=(l.at (w':=wN)).frozen 3;have y4:=(l.at (w':=wN)).frozen 4;have y5:=(l.at (w':=wN)).frozen 5
    skip
    go_simp;refine hK.out _ _ (r.o _ (mH (aP w3 wN) ai _ _ _ _ _ _)) (λhHeld=>?_)
    try dsimp only[Act.put,List.setIfInBounds_toArray,List.set_cons_zero,List.set_cons_succ]
    have n1:=bu ob.lt (aL (ai (w:=wA)) ld);have n2:=bu O.lt (aL (ai (w:=U)) lf);refine a9 ?_
    go_wp2_with fail
    go_meet
    exact⟨_,a,b,c2,V,L,f2,rfl,(l.at (w':=wN)).wS _ _ _ _ _ _,(jX _ _ _ _ _ _).hz (oa.at (w':=wN)) ((oa.at (w':=wN)).aH (l.at (w':=wN)) am),(jX _ _ _ _ _ _).hz (ob.at (w':=wN)) ((ob.at (w':=wN)).aH (l.at (w':=wN)) am),(jX _ _ _ _ _ _).hz (R.at (w':=wN)) ((R.at (w':=wN)).aH (l.at (w':=wN)) am),(jX _ _ _ _ _ _).hz (O.at (w':=wN)) ((O.at (w':=wN)).aH (l.at (w':=wN)) am),(jX _ _ _ _ _ _).hz (Q.at (w':=wN)) ((Q.at (w':=wN)).aH (l.at (w':=wN)) am),(jX _ _ _ _ _ _).hz (of.at (w':=wN)) ((of.at (w':=wN)).aH (l.at (w':=wN)) am),aL ai la,aL ai lb,aL ai lc,aL ai ld,aL ai le,aL ai lf,ai,n1,n2,mH (aP w3 wN) ai _ _ _ _ _ _⟩
  .go_simp;refine qt hK (λ_=>?_) (r.o _ (ml));refine nl (λu1 sQ l zu1=>?_);have hHeld:=r.o u1 (ml);refine aK 1 λK hK=>?_;go_simp;refine(C1.o _ h1.at h2.at).mono ?_;rintro e wA ⟨a,b,rfl,la,lb,oa,ob,hb⟩;dsimp only;have pwA:=aj.mk hb;clear hb;refine hK.out _ _ (r.o _ (ml)) (λhHeld=>?_)
   try dsimp only[Act.put,List.setIfInBounds_toArray,List.set_cons_zero,List.set_cons_succ]
   refine aK 3 λK hK=>?_;go_simp;refine(C2.o _ h7.at h8.at).mono ?_;rintro e U ⟨c2,V,rfl,lc,ld,R,O,hb⟩;dsimp only;have pwB:=aj.mk hb;clear hb;refine hK.out _ _ (r.o _ (ml)) (λhHeld=>?_)
   try dsimp only[Act.put,List.setIfInBounds_toArray,List.set_cons_zero,List.set_cons_succ]
   refine aK 5 λK hK=>?_;go_simp;refine(C3.o _ h5.at h6.at).mono ?_;rintro e wC ⟨L,f2,rfl,le,lf,Q,of,hb⟩;dsimp only;have pwC:=aj.mk hb;clear hb;refine hK.out _ _ (r.o _ (ml)) (λhHeld=>?_)
   try dsimp only[Act.put,List.setIfInBounds_toArray,List.set_cons_zero,List.set_cons_succ]
   refine oA 6 ?_;refine aK 8 λK hK=>?_;rename World=>wN;obtain⟨q0,Z,q2,Y,q4,q5⟩:=zI (l.at (w':=wN));have y0:=(l.at (w':=wN)).frozen 0;have y1:=(l.at (w':=wN)).frozen 1;have y2:=(l.at (w':=wN)).frozen 2;have y3:=(l.at (w':=wN)).frozen 3;have y4:=(l.at (w':=wN)).frozen 4;have y5:=(l.at (w':=wN)).frozen 5
   skip
   go_simp;refine hK.out _ _ (r.o _ (mH (aP w3 wN) ai _ _ _ _ _ _)) (λhHeld=>?_)
   try dsimp only[Act.put,List.setIfInBounds_toArray,List.set_cons_zero,List.set_cons_succ]
   have n1:=bu ob.lt (aL (ai (w:=wA)) ld);have n2:=bu O.lt (aL (ai (w:=U)) lf);refine a9 ?_
   go_wp2_with fail
   go_meet
   exact⟨_,a,b,c2,V,L,f2,rfl,(l.at (w':=wN)).wS _ _ _ _ _ _,(jX _ _ _ _ _ _).hz (oa.at (w':=wN)) ((oa.at (w':=wN)).aH (l.at (w':=wN)) am),(jX _ _ _ _ _ _).hz (ob.at (w':=wN)) ((ob.at (w':=wN)).aH (l.at (w':=wN)) am),(jX _ _ _ _ _ _).hz (R.at (w':=wN)) ((R.at (w':=wN)).aH (l.at (w':=wN)) am),(jX _ _ _ _ _ _).hz (O.at (w':=wN)) ((O.at (w':=wN)).aH (l.at (w':=wN)) am),(jX _ _ _ _ _ _).hz (Q.at (w':=wN)) ((Q.at (w':=wN)).aH (l.at (w':=wN)) am),(jX _ _ _ _ _ _).hz (of.at (w':=wN)) ((of.at (w':=wN)).aH (l.at (w':=wN)) am),aL ai la,aL ai lb,aL ai lc,aL ai ld,aL ai le,aL ai lf,ai,n1,n2,mH (aP w3 wN) ai _ _ _ _ _ _⟩
 case rest=>
  obtain⟨b0,a,b,c2,V,L,f,rfl,kS,oa,ob,R,O,Q,of,la,lb,lc,ld,le,lf,l0,n1,n2,hb⟩:=hcut;have Xn:=aj.mk hb;clear hb;have xd:=λty=>hU (P:=prog) 26 65 ty underlying26 ao of K4 m.length;have nbf:b≠f:=om;have n0:f≠b0:=of.aH kS am;obtain⟨q0,Z,q2,Y,q4,q5⟩:=zI kS;have Ta:=(fG (bs:=[f]) (g:=f) aD (List.replicate m.length an) 0 (ik.refl [f] wc)).ak (kG.at (w':=wc)) cr;obtain⟨t0,t1⟩:=bI Ta
  go_wp2_with fail
  clear t0 t1 q0 Z q2 Y q4 q5 xd;have u:=fG (bs:=[f]) (g:=f) aD (List.replicate m.length an) 0 (ik.refl [f] wc);have ofW:=of.clear;have abS:=dG (n:=w.1.size) (g:=f) om (List.replicate m.length an) 0 (aP w wc);generalize wc.setCells f 0 (List.replicate m.length an)=W at*;have XK:∀g∈[b,f],w.1.size<=g:=by intro g hg;simp at hg;omega
  have Pd:∀g∈[f],w.1.size<=g:=by intro g hg;simp at hg;omega
  have nf1:f≠a:=λe=>by subst e;exact(oa.aH (cs:=ints m) of am) rfl
  have nf2:f≠c2:=λe=>by subst e;exact(R.aH (cs:=ints m) of am) rfl
  have nf3:f≠L:=λe=>by subst e;exact(Q.aH (cs:=ints m) of am) rfl
  have nb1:b≠a:=λe=>by subst e;exact(oa.aH (cs:=ints xs) ob am) rfl
  have nb2:b≠c2:=λe=>by subst e;exact(R.aH (cs:=ints xs) ob am) rfl
  have nb3:b≠L:=λe=>by subst e;exact(Q.aH (cs:=ints xs) ob am) rfl
  have nb0:b≠b0:=ob.aH kS am;have oaW:=u.own oa (by simpa using nf1.symm);have obW:=u.own ob (by simpa using nbf);have ocW:=u.own R (by simpa using nf2.symm);have odW:=u.own O cr;have oeW:=u.own Q (by simpa using nf3.symm);have kSW:=u.ak kS (by simpa using n0.symm);have kWW:=u.ak (kW.at (w':=wc)) cr;have kXW:=u.ak (kX.at (w':=wc)) cr;have kGW:=u.ak (kG.at (w':=wc)) cr;have kRW:=u.ak (kR.at (w':=wc)) cr;have h1W:=u.fT h1 (h1.at (w':=wc)) Pd;have h2W:=u.fT h2 (h2.at (w':=wc)) Pd;have h6W:=u.fT h6 (h6.at (w':=wc)) Pd;have h8W:=u.fT h8 (h8.at (w':=wc)) Pd;rw[<-Ck m.length xs gs]at ofW;go_loopw [49] (λi wr=>∃k:Nat,k<=gs.length/\i=.int .i64 k/\ik [b,f] W wr/\Own wr b 65 (e2 (λp=>(e4 gs m).take p) xs (k*N))/\Own wr f 65 (fx m.length xs gs k 0)/\Below w.1.size w wr) (λi _=>gs.length-(intOf i).toNat)
  case atStart=>exact⟨0,aM _,rfl,ik.refl _ _,by simpa[e2]using obW,ofW,abS⟩
  case round=>
   obtain⟨k,hk,rfl,hO,o1,o2,ZM⟩:=hrel;have kSr:=hO.ak kSW cr;have J:=hO.ak kRW cr;by_cases bE:k<gs.length
   .obtain⟨S,hS⟩:∃S,Hx (k*N=S):=⟨_,ae rfl⟩;rw[hS.o]at o1;have Pb:k<M:=by rw[<-S9.o];exact bE
    have adC:S+N<=xs.length:=by rw[n7.o,<-hS.o,<-d5];exact cU _ Pb
    have Tc:=hO.ak kWW cr;have kXr:=hO.ak kXW cr;have r1:=hO.fT h1 h1W XK;have oar:=hO.own oaW cr;obtain⟨b8,o8,g,rfl,hb8,Pe,hgk⟩:=(hO.fT h8 h8W XK).get bE;have Pf:=hg.o g (aC hgk.o);have CL1:=ae λ(w':aa) (h:Rd w' A [(M:Int),(N:Int)])=>vC A bx ox c d M N k S xs w' hd hM hN B8 n7 zq Pb hS h;have CL2:=ae λ(w':aa) (h:Rd w' a [(M:Int),(N:Int)])=>vC a b 0 2 xs.length M N k S xs w' (al _) hM hN B8 n7 zq Pb hS h;rw[cf]at CL2
    go_wp2_with fail
    have r:Hx (∀w':World,Below (wr).1.size (wr) w'->w'.cell? (w.1.size,0)=some (.slice A 2 c)/\w'.cell? (w.1.size,1)=some (.slice (some ⟨bx,ox,none⟩) xs d)/\w'.cell? (b0,0)=some (.slice a 2 2)/\w'.cell? (b0,1)=some (.slice b xs xs.length)):=λw' I=>⟨(Tc.keep I).cell 0,(Tc.keep I).cell 1,(kSr.keep I).cell 0,(kSr.keep I).cell 1⟩;refine wp_region_held_drew (S:=λw'=>w'.cell? (w.1.size,0)=some (.slice A 2 c)/\w'.cell? (w.1.size,1)=some (.slice (some ⟨bx,ox,none⟩) xs d)/\w'.cell? (b0,0)=some (.slice a 2 2)/\w'.cell? (b0,1)=some (.slice b xs xs.length)) ao (r.o _ (ml)) (λ_=>?_);refine yL (λwD pwD=>?_);have hHeld:=r.o wD (ml);refine oA 0 ?_;refine oA 1 ?_;refine oA 3 ?_;refine oA 4 ?_;refine oA 5 ?_;refine aK 2 λK hK=>?_;go_simp;refine(CL1.o _ r1.at).mono ?_;rintro e wA ⟨rfl,hb⟩;dsimp only;have pwA:=aj.mk hb;clear hb;refine hK.out _ _ (r.o _ (ml)) (λhHeld=>?_)
    try dsimp only[Act.put,List.setIfInBounds_toArray,List.set_cons_zero,List.set_cons_succ]
    refine aK 6 λK hK=>?_;go_simp;refine(CL2.o _ oar.rd.at).mono ?_;rintro e U ⟨rfl,hb⟩;dsimp only;have pwB:=aj.mk hb;clear hb;refine hK.out _ _ (r.o _ (ml)) (λhHeld=>?_)
    try dsimp only[Act.put,List.setIfInBounds_toArray,List.set_cons_zero,List.set_cons_succ]
    refine oA 7 ?_;refine oA 8 ?_;refine a9 ?_;clear hHeld r;have o1B:=o1.at (w':=U);have o2B:=o2.at (w':=U);have hOB:=hO.below (aP wr U);have abT:=du ZM (aP wr U);obtain⟨p0,p1⟩:=bI (kXr.at (w':=U))
    go_wp2_with fail
    clear p0 p1;go_loopw [64] (λi wq=>∃j:Nat,j<=m.length/\i=.int .i64 j/\ik [b,f] W wq/\Own wq b 65 (e2 (λp=>(e4 gs m).take p) xs (S+j))/\Own wq f 65 (fx m.length xs gs k j)/\Below w.1.size w wq) (λi _=>m.length-(intOf i).toNat)
    case atStart=>exact⟨0,aM _,rfl,hOB,o1B,o2B,abT⟩
    case round=>
     obtain⟨j,hj,rfl,hOj,m1,m2,hbj⟩:=hrel;by_cases XL:j<m.length
     .obtain⟨b6,o6,v,rfl,hb6,hc6,hvj⟩:=(hOj.fT h6 h6W XK).get XL;have Td:=hv.o v (aC hvj.o);have hjN:j<N:=by rw[<-Cn.o];exact XL
      obtain⟨x,X⟩:∃x,Hx (xs[S+j]?=some x):=⟨_,ae (a5 om)⟩;have hxi:=hx.o x (aC X.o);have HXK:Hx (xs[k*m.length+j]?=some x):=ae (by rw[Cn.o,hS.o];exact X.o);have xq:Hx (((e4 gs m).take (S+j)).length=S+j):=ae (by rw[bO,T.o];omega);have HBA:Hx ((e4 gs m).take (S+j+1)=(e4 gs m).take (S+j)++[bN g v]):=Cm (by rw[<-hS.o,<-Cn.o];exact O9 hgk.o hvj.o);have u1:=m1.cell (mG (f:=λp=>(e4 gs m).take p) xq X.o);have u2:=m1.frozen (S+j);have hO2:=hOj.av (g:=b) aD (S+j) (bN g v:Int);have M1:=ae (m1.av (S+j) (bN g v));rw[kx (f:=λp=>(e4 gs m).take p) xq.o HBA.o X.o]at M1;have M2:=m2.aY (p:=⟨b,S+j,none⟩) (by exact nbf.symm) (bN g v:Int);have B2:=hbj.setCell (p:=⟨b,S+j,none⟩) (by show w.1.size<=b;omega) (bN g v:Int);have t5:=(hO2.ak kSW cr).cell 5;have u3:=M2.cell (H1 (k:=k) XL);have u4:=M2.frozen j;have u5:(wr.setCell (b,S+j) (bN g v:Int)).cell? (bx,ox+S+j)=some (.int .i64 x):=by rw[lM];exact(hO2.fT h2 h2W XK).all X.o
      have CM:=ae (qD (qw x g (wr.setCell (b,S+j) (bN g v:Int)).drew hxi Pf));have CA:=ae (qD (mm (lH m.length xs gs j k) (bN x g) (wr.setCell (b,S+j) (bN g v:Int)).drew (H0 _ _ _ _ _) (hT hxi Pf)));have HXS:=ae (FK XL HXK hgk.o);have M3:=M1.o.aY (p:=⟨f,j,none⟩) (by exact nbf) (bQ (lH m.length xs gs j k) (bN x g):Int);have M4:=M2.av j (bQ (lH m.length xs gs j k) (bN x g));rw[HXS.o]at M4;have hO4:=hO2.av (g:=f) aD j (bQ (lH m.length xs gs j k) (bN x g):Int);have B4:=B2.setCell (p:=⟨f,j,none⟩) (by show w.1.size<=f;omega) (bQ (lH m.length xs gs j k) (bN x g):Int)
      go_wp2_with fail
      refine(qw g v wr Pf Td).mono ?_;rintro e w' ⟨rfl,rfl⟩
      go_upto_region 13 with fail
      clear u1 u2;generalize wr.setCell (b,S+j) (bN g v:Int)=wz at*;refine wp_region_still_tail 17 ao ao ?_;change wpStill _ _ (wz).drew _ _ _;simp only[fX,dW,iB,fo]
      iterate 15 still_step
      still_call CM
      still_call CA
      repeat still_step
      refine gG ?_
      go_wp2_with fail
      go_roundw
      case rel=>exact⟨j+1,om,by go_num,hO4.drew,M3.drew,M4.drew,B4.drew⟩
      case measure=>exact nT
     .have e:j=m.length:=om;subst e;rw[FL]at m2;have eS:S+m.length=(k+1)*N:=by rw[Cn.o,d5,hS.o]
      rw[eS]at m1;clear eS
      go_wp2_with fail
      go_roundw
      case rel=>exact⟨k+1,om,by go_num,hOj,m1,m2,hbj⟩
      case measure=>exact nT
   .have e:k=gs.length:=om;subst e;rw[FM]at o2;have eW:e2 (λp=>(e4 gs m).take p) xs (gs.length*N)=e4 gs m:=by
     rw[S9.o,<-n7.o,e2,tF,en,<-T.o,dR]
    rw[eW]at o1;have HLX:Hx ((lD m.length xs gs).length=m.length):=ae (by simp[lD]);have oar:=hO.own oaW cr;have ocr:=hO.own ocW cr;have odr:=hO.own odW cr;have oer:=hO.own oeW cr;clear eW;obtain⟨q0,Z,q2,Y,q4,q5⟩:=zI kSr;obtain⟨t0,t1,t2,t3,t4,t5⟩:=zI J;have y0:=J.frozen 0;have y1:=J.frozen 1;have y2:=J.frozen 2;have y3:=J.frozen 3;have y4:=J.frozen 4;have y5:=J.frozen 5
    go_wp2_with fail
    have k3:=J.wS (a,2,2) (.slice b xs xs.length) (c2,1,1) (.slice V gs gs.length) (.slice L y y.length) (.slice f m m.length);have B3:=mH ZM (p:=w.1.size+1+1+1+1) om (a,2,2) (.slice b xs xs.length) (c2,1,1) (.slice V gs gs.length) (.slice L y y.length) (.slice f m m.length);have X3:=jX (w:=wr) (p:=w.1.size+1+1+1+1) (a,2,2) (.slice b xs xs.length) (c2,1,1) (.slice V gs gs.length) (.slice L y y.length) (.slice f m m.length);clear q0 Z q2 Y q4 q5 t0 t1 t2 t3 t4 t5;obtain⟨q0,Z,q2,Y,q4,q5⟩:=zI k3;refine aX (v:=.tuple #[.agg #[(a,2,2),.slice b xs xs.length,(c2,1,1),.slice V gs gs.length,.slice L y y.length,.slice f m m.length],an]) (by simp[results,results105,go_sem,q0,Z,q2,Y,q4,q5]) rfl ?_;refine⟨some ⟨a,0,none⟩,2,some ⟨b,0,none⟩,xs.length,some ⟨c2,0,none⟩,1,some ⟨V,0,none⟩,gs.length,some ⟨L,0,none⟩,y.length,some ⟨f,0,none⟩,m.length,by rw[T.o,HLX.o];rfl,aB.gK (X3.hz oar om) om aD,?_,aB.gK (X3.hz ocr om) om aD,aB.gK (X3.hz odr om) om om,aB.gK (X3.hz oer om) om om,?_,B3⟩
    .have:=aB.gK (B:=w.1.size) (X3.hz o1 om) om (by rw[T.o];omega);rw[T.o]at this;exact this
    .have:=aB.gK (B:=w.1.size) (X3.hz o2 om) om (by rw[HLX.o];omega);rw[HLX.o]at this;exact this
variable{A B:Option Addr}{c d:Nat}

variable{E S lo y1:Int}
structure od(y1 y0 u d q r:Int):Prop where
 sum:q*y1+r=u
 low:(u*4294967296+d)/(y1*4294967296+y0)<=q
 r0:0<=r
 q0:0<=q
 high:q<=4294967298
variable{y0 u d q r:Int}
def ut(b:2147483648<=y1)(e:0<=y0)(hu:u<y1*4294967296+y0)(hd:d<4294967296):
  (u*4294967296+d)/(y1*4294967296+y0)<4294967296:=by
 apply tD om;omega
def pG(z:2147483648<=y1)(B:y1<4294967296)(l:0<=y0)(C:y0<4294967296)(j:0<=u)(hu:u<y1*4294967296+y0)(m:0<=d)(hd:d<4294967296):
  od y1 y0 u d (u/y1) (u-u/y1*y1):=by
 have e:=MG u y1;have r0:=xS u (b:=y1) om;have r1:=xN u (b:=y1) om;have q0:0<=u/y1:=kI j om;generalize hq:u/y1=q at*;generalize u%y1=r at*;have D:q*y1=y1*q:=jB _ _;refine⟨om,?_,om,q0,?_⟩
 ·
  apply Int.le_of_lt_add_one;apply tD om;have E:(q+1)*(y1*4294967296+y0)=(y1*q)*4294967296+y1*4294967296+(q+1)*y0:=by
   rw[EF,<-hI,iV,rD,jB q y1,iV]
  have F:0<=(q+1)*y0:=jF om l;omega
 ·
  by_cases y:q<=4294967298
  .exact y
  .exfalso;have:4294967299*y1<=q*y1:=xM om om;omega
def oL(h:od y1 y0 u d q r)(b:2147483648<=y1)(j:0<=y0)(ht:q*y0<=4294967296*r+d):q=(u*4294967296+d)/(y1*4294967296+y0):=by
 refine Int.le_antisymm ?_ h.low;apply(xY om).2;have e:q*(y1*4294967296+y0)=q*y1*4294967296+q*y0:=by rw[EF,<-hI]
 have:=h.sum;omega
def jm(h:od y1 y0 u d q r)(b:2147483648<=y1)(j:0<=y0)(hu:u<y1*4294967296+y0)(hd:d<4294967296)(ht:4294967296<=q\/4294967296*r+d<q*y0):
  (u*4294967296+d)/(y1*4294967296+y0)<=q-1:=by
 have l:=ut b j hu hd;rcases ht with ht|ht
 .omega
 .have:(u*4294967296+d)/(y1*4294967296+y0)<q:=by
   apply tD om;have e:q*(y1*4294967296+y0)=q*y1*4294967296+q*y0:=by rw[EF,<-hI]
   have:=h.sum;omega
  omega
def jn(h:od y1 y0 u d q r)(e:2147483648<=y1)(b:0<=(u*4294967296+d)/(y1*4294967296+y0))(hm:(u*4294967296+d)/(y1*4294967296+y0)<=q-1):od y1 y0 u d (q-1) (r+y1):=by
 refine⟨?_,hm,?_,om,?_⟩
 .have:=h.sum;rw[MU,rD];omega
 .have:=h.r0;omega
 .have:=h.high;omega
def jo(h:od y1 y0 u d q r)(e:2147483648<=y1)(b:0<=y0)(l:y0<4294967296)(j:0<=d)(hq:q<=4294967297)(hr:4294967296<=r):q=(u*4294967296+d)/(y1*4294967296+y0):=by
 apply oL h e b;have:q*y0<=4294967297*4294967295:=lO hq om b om;omega
def Te{hi:Int}(e:0<z)(hE:0<E)(b:z*E=18446744073709551616)(j:0<=hi)(C:hi<y)(l:0<=lo)(F:lo<=18446744073709551615)(G:y*z<=18446744073709551615):
  0<=hi*z/\hi*z<=18446744073709551615/\0<=lo/E/\lo/E<z/\0<=hi*z+lo/E/\hi*z+lo/E<y*z/\
   (hi*18446744073709551616+lo)*z=(hi*z+lo/E)*18446744073709551616+lo*z%18446744073709551616:=by
 have m:0<=hi*z:=jF j om;have r:(hi+1)*z<=y*z:=xM om om;rw[iV,rD]at r;have a3:0<=lo/E:=kI l om;have a4:lo/E<z:=by
  apply tD hE;omega
 refine⟨m,om,a3,a4,om,om,?_⟩;have u:lo*z/18446744073709551616=lo/E:=by
  rw[<-b,jB z E,MD _ _ e]
 have B:=MG (lo*z) 18446744073709551616;rw[u]at B;rw[iV,hI,jB 18446744073709551616 z,<-hI];omega
def K5{N L q0 v b:Int}(m:0<z)(r:0<y)(hN:N*z=E*18446744073709551616+L)
  (F:S*(y*z)+v=E*4294967296+L/4294967296) (G:q0*(y*z)+b=v*4294967296+L%4294967296) (j:0<=b) (l:b<y*z):
  S*4294967296+q0=N/y/\b/z=N%y:=by
 have e:N*z=(S*4294967296+q0)*(y*z)+b:=by
  have I:(S*4294967296+q0)*(y*z)=S*(y*z)*4294967296+q0*(y*z):=by
   rw[iV,hI,jB 4294967296 (y*z),<-hI]
  have:L=L/4294967296*4294967296+L%4294967296:=om;omega
 generalize S*4294967296+q0=q at*;have B:0<y*z:=Int.mul_pos r m;have hq:N*z/(y*z)=q:=by
  rw[e,MT,WO _ _ om,MB j l,MC]
 rw[MD _ _ m]at hq;refine⟨hq.symm,?_⟩;have C:b=(N-q*y)*z:=by rw[MU,hI];omega
 rw[C,Int.mul_ediv_cancel _ om,EO,hq,jB]
def fl{T Y q:Int}(hq:q=T/Y)(j:0<Y):0<=T-q*Y/\T-q*Y<Y:=by
 subst hq;have e:=EO T Y;rw[jB]at e;have a:=xS T (b:=Y) om;have b:=xN T j;omega
def pH{u:Int}(j:0<=u)(l:1<=y1):0<=u/y1*y1/\u/y1*y1<=u/\u-u/y1*y1<y1:=by
 have e:=EO u y1;rw[jB]at e;have a:=xS u (b:=y1) om;have b:=xN u (b:=y1) om;exact⟨jF (kI j om) om,om,om⟩
def K6(s:Nat)(h:s<=63):(2:Int)^s*2^(64-s)=18446744073709551616:=by
 rw[<-MV,show s+(64-s)=64 from om];rfl
def H3(a b:Int)(s:Nat)(l:0<=a)(r:a*2^s<=18446744073709551615)(u:0<=b)(y:b<2^s)(B:b<=18446744073709551615):bits .or .u64 (a*2^s) b=a*2^s+b:=by
 obtain⟨n,rfl⟩:=bJ l;obtain⟨m,rfl⟩:=bJ u;have j:(n:Int)*2^s=((n*2^s:Nat):Int):=by rw[b8,tM];rfl
 have z:((2:Int)^s)=((2^s:Nat):Int):=by rw[tM];rfl
 rw[j]at r;rw[z]at y;rw[j,MX (n*2^s) m om om];have e:n*2^s|||m=n*2^s+m:=by
  have:=Eh (i:=s) (b:=m) om n;rw[tG];omega
 rw[e];omega
def H4(hi lo y:Int)(w:aa)(h0:0<=hi)(h1:hi<y)(h2:y<=18446744073709551615)(h3:0<=lo)(h4:lo<=18446744073709551615):
  () 222 #[.int .u64 hi,.int .u64 lo,.int .u64 y] w λe w'=>e=.returned (.tuple #[.int .u64 ((hi*18446744073709551616+lo)/y),.int .u64 ((hi*18446744073709551616+lo)%y)])/\Below w.1.size w w':=by
 by_cases hz:hi=0
 .subst hz
  go_in
  go_wp2
  go_big_quiet (fail)
  go_wp2_with fail
  go_ret2;exact⟨aD,below_drewN (aV _ _) _⟩
 .have hH:(hi==0)=false:=by simpa using hz
  have jM:1<=hi:=om;clear hz
  go_in
  go_wp2_with fail
  refine(J8 y w om h2).mono ?_;rintro e w1 ⟨s,rfl,rfl,s1,s2,s3⟩;have hD:0<(2:Int)^s:=Er am;have hE:0<(2:Int)^(64-s):=Er am;obtain⟨m1,m2,m3,m4,m5,m6,m7⟩:=Te hD hE (K6 s s1) h0 h1 h3 h4 s3;have eO:=H3 hi (lo/2^(64-s)) s h0 m2 m3 m4 om;have eL:IntKind.u64.wrap (lo*2^s)=lo*2^s%18446744073709551616:=bq _;have XM:0<=lo*2^s%18446744073709551616:=om;have hL1:lo*2^s%18446744073709551616<=18446744073709551615:=om;generalize Pg:hi*18446744073709551616+lo=N at*;generalize OP:lo*2^s%18446744073709551616=L at*;generalize hUU:hi*2^s+lo/2^(64-s)=u at*;have FN:Hx (∀R q0 v v2:Int,R*(y*2^s)+v=u*4294967296+L/4294967296->q0*(y*2^s)+v2=v*4294967296+L%4294967296->0<=v2->v2<y*2^s->R*4294967296+q0=N/y/\v2/2^s=N%y):=
   ae (λR q0 v v2 a b c d=>K5 hD om m7 a b c d)
  have eA:=rF (y*2^s) om s3;have eB:=rF L XM hL1;have l:0<=y*2^s%4294967296:=om;have F:y*2^s%4294967296<4294967296:=om;have m:2147483648<=y*2^s/4294967296:=om;have Np:y*2^s/4294967296<4294967296:=om;have C:Hx (y*2^s/4294967296*4294967296+y*2^s%4294967296=y*2^s):=ae om;have Co:0<=L/4294967296:=om;have Nq:L/4294967296<4294967296:=om;have oK:0<=L%4294967296:=om;have G:L%4294967296<4294967296:=om;have zl:=ae Pg;clear m7 Pg OP hUU;generalize hYe:y*2^s=Y at*;generalize adD:Y/4294967296=y1 at*;generalize abU:Y%4294967296=y0 at*;generalize adF:L/4294967296=d1 at*;generalize abV:L%4294967296=d0 at*;clear abU abV;have XN:=pG m Np l F m5 (by rw[C.o];exact m6) Co Nq;have DL1:=ut (y1:=y1) (y0:=y0) (u:=u) (d:=d1) m l (by rw[C.o];exact m6) Nq;obtain⟨g1,g2,g3⟩:=pH (u:=u) (y1:=y1) m5 om;have FO:=XN.high;have E:=XN.q0;generalize hq:u/y1=q at*;generalize hre:u-q*y1=r at*;have ZN:=ae XN;clear XN
  go_wp2_with fail
  go_loop [15,16] (λa b=>∃q r:Int,a=.int .u64 q/\b=.int .u64 r/\od y1 y0 u d1 q r/\r<4294967296) (λa _=>(intOf a).toNat)
  case atStart=>exact⟨q,r,by rw[hq],rfl,ZN.o,om⟩
  case round=>
   clear hq hre FO E ZN g1 g2 g3;obtain⟨q,r,rfl,rfl,Tf,hr4⟩:=hrel;have FO:=Tf.high;have E:=Tf.q0;have WZ:=Tf.r0;have Th:0<=(u*4294967296+d1)/(y1*4294967296+y0):=kI om om;have HU:Hx (u<y1*4294967296+y0):=ae (by rw[C.o];exact m6);have HD:=ae Tf;clear Tf;by_cases yZ:4294967296<=q
   .have j:=jm HD.o m l HU.o Nq (.inl yZ);have HN:=ae (jn HD.o m Th j);have K7:1<=q:=om;clear j;by_cases B:4294967296<=r+y1
    .have HQ:=ae (jo HN.o m l F Co om B);obtain⟨H5,Z⟩:=fl (T:=u*4294967296+d1) (Y:=Y) (q:=(q-1)) (by rw[<-C.o];exact HQ.o) om;have Ti:Hx ((q-1)<4294967296):=ae (by have:=HQ.o;omega);have ZO:0<=(q-1):=by have:=HQ.o;omega
     generalize ZP:(q-1)=R at*;have HV:Hx (R*Y+(u*4294967296+d1-R*Y)=u*4294967296+d1):=ae om;have E21:IntKind.u64.wrap (IntKind.u64.wrap (IntKind.u64.wrap (u*4294967296)+d1)-IntKind.u64.wrap (R*Y))=u*4294967296+d1-R*Y:=by
      rw[bq,bq,bq,bq];omega
     have ZQ:=Ti.o;generalize hve:u*4294967296+d1-R*Y=v at*;clear hve;obtain⟨g1,g2,g3⟩:=pH (u:=v) (y1:=y1) H5 om;have X:=pG m Np l F H5 (by rw[C.o];exact Z) oK G;have DL2:=ut (y1:=y1) (y0:=y0) (u:=v) (d:=d0) m l (by rw[C.o];exact Z) G;have FO:=X.high;have E:=X.q0;generalize uj:v/y1=p at*;generalize OC:v-p*y1=t at*;have Dc:=ae X;clear X
     go_wp2_with fail
     go_loop [18,16] (λa b=>∃p t:Int,a=.int .u64 p/\b=.int .u64 t/\od y1 y0 v d0 p t/\t<4294967296) (λa _=>(intOf a).toNat)
     case atStart=>exact⟨p,t,rfl,rfl,Dc.o,om⟩
     case round=>
      clear uj OC FO E Dc g1 g2 g3;obtain⟨p,t,rfl,rfl,D,ht4⟩:=hrel;have FO:=D.high;have E:=D.q0;have WZ:=D.r0;have I:0<=(v*4294967296+d0)/(y1*4294967296+y0):=kI om om;have ll:Hx (v<y1*4294967296+y0):=ae (by rw[C.o];exact Z);have J:=ae D;clear D;by_cases zK:4294967296<=p
      .have j:=jm J.o m l ll.o G (.inl zK);have K:=ae (jn J.o m I j);have K7:1<=p:=om;clear j;by_cases B:4294967296<=t+y1
       .have z:=ae (jo K.o m l F oK om B);obtain⟨M,O⟩:=fl (T:=v*4294967296+d0) (Y:=Y) (q:=(p-1)) (by rw[<-C.o];exact z.o) om;have P:Hx ((p-1)<4294967296):=ae (by have:=z.o;omega);have S:0<=(p-1):=by have:=z.o;omega
        generalize U:(p-1)=p1 at*;have HX:Hx (p1*Y+(v*4294967296+d0-p1*Y)=v*4294967296+d0):=ae om;have H6:IntKind.u64.wrap (IntKind.u64.wrap (IntKind.u64.wrap (v*4294967296)+d0)-IntKind.u64.wrap (p1*Y))=v*4294967296+d0-p1*Y:=by
         rw[bq,bq,bq,bq];omega
        have V:=P.o;generalize zL:v*4294967296+d0-p1*Y=x at*;clear zL;have FF:=ae (FN.o R p1 v x HV.o HX.o M O)
        go_wp2_with fail
        go_ret2;exact⟨by rw[zl.o,<-FF.o.1,<-FF.o.2];rfl,aV _ _⟩
       .go_wp2_with fail
        go_round
        case rel=>exact⟨p-1,t+y1,rfl,rfl,K.o,om⟩
        case measure=>exact nT
      .have Tj:0<=p*y0:=jF E l;have Tk:p*y0<=4294967295*4294967295:=lO om om l om;by_cases Q:4294967296*t+d0<p*y0
       .have j:=jm J.o m l ll.o G (.inr Q);have K:=ae (jn J.o m I j);have K7:1<=p:=om;clear j;by_cases B:4294967296<=t+y1
        .have z:=ae (jo K.o m l F oK om B);obtain⟨M,O⟩:=fl (T:=v*4294967296+d0) (Y:=Y) (q:=(p-1)) (by rw[<-C.o];exact z.o) om;have P:Hx ((p-1)<4294967296):=ae (by have:=z.o;omega);have S:0<=(p-1):=by have:=z.o;omega
         generalize U:(p-1)=p1 at*;have HX:Hx (p1*Y+(v*4294967296+d0-p1*Y)=v*4294967296+d0):=ae om;have H6:IntKind.u64.wrap (IntKind.u64.wrap (IntKind.u64.wrap (v*4294967296)+d0)-IntKind.u64.wrap (p1*Y))=v*4294967296+d0-p1*Y:=by
          rw[bq,bq,bq,bq];omega
         have V:=P.o;generalize zL:v*4294967296+d0-p1*Y=x at*;clear zL;have FF:=ae (FN.o R p1 v x HV.o HX.o M O)
         go_wp2_with fail
         go_ret2;exact⟨by rw[zl.o,<-FF.o.1,<-FF.o.2];rfl,aV _ _⟩
        .go_wp2_with fail
         go_round
         case rel=>exact⟨p-1,t+y1,rfl,rfl,K.o,om⟩
         case measure=>exact nT
       .have z:=ae (oL J.o m l om);obtain⟨M,O⟩:=fl (T:=v*4294967296+d0) (Y:=Y) (q:=p) (by rw[<-C.o];exact z.o) om;have P:Hx (p<4294967296):=ae (by have:=z.o;omega);have S:0<=p:=by have:=z.o;omega
        generalize U:p=p1 at*;have HX:Hx (p1*Y+(v*4294967296+d0-p1*Y)=v*4294967296+d0):=ae om;have H6:IntKind.u64.wrap (IntKind.u64.wrap (IntKind.u64.wrap (v*4294967296)+d0)-IntKind.u64.wrap (p1*Y))=v*4294967296+d0-p1*Y:=by
         rw[bq,bq,bq,bq];omega
        have V:=P.o;generalize zL:v*4294967296+d0-p1*Y=x at*;clear zL;have FF:=ae (FN.o R p1 v x HV.o HX.o M O)
        go_wp2_with fail
        go_ret2;exact⟨by rw[zl.o,<-FF.o.1,<-FF.o.2];rfl,aV _ _⟩
    .go_wp2
     go_round
     .exact⟨q-1,r+y1,rfl,rfl,HN,om⟩
     .simp[intOf];omega
   .have Tj:0<=q*y0:=jF E l;have Tk:q*y0<=4294967295*4294967295:=lO om om l om;by_cases Q:4294967296*r+d1<q*y0
    .have j:=jm HD m l HU Nq (.inr Q);have HN:=ae (jn HD m Th j);have K7:1<=q:=om;by_cases B:4294967296<=r+y1
     .have HQ:=ae (jo HN m l F Co om B);have⟨H5,Z⟩:=fl (T:=u*4294967296+d1) (Y:=Y) (q:=(q-1)) (by rw[<-C.o];exact HQ) om;have Ti:Hx ((q-1)<4294967296):=ae (by have:=HQ.o;omega);have ZO:0<=(q-1):=by have:=HQ.o;omega
      generalize ZP:(q-1)=R at*;have HV:Hx (R*Y+(u*4294967296+d1-R*Y)=u*4294967296+d1):=ae om;have E21:IntKind.u64.wrap (IntKind.u64.wrap (IntKind.u64.wrap (u*4294967296)+d1)-IntKind.u64.wrap (R*Y))=u*4294967296+d1-R*Y:=by
       rw[bq,bq,bq,bq];omega
      have ZQ:=Ti.o;generalize hve:u*4294967296+d1-R*Y=v at*;have⟨g1,g2,g3⟩:=pH (u:=v) (y1:=y1) H5 om;have X:=pG m Np l F H5 (by rw[C.o];exact Z) oK G;have DL2:=ut (y1:=y1) (y0:=y0) (u:=v) (d:=d0) m l (by rw[C.o];exact Z) G;have FO:=X.high;have E:=X.q0;generalize uj:v/y1=p at*;generalize OC:v-p*y1=t at*;have Dc:=ae X
      go_wp2
      go_loop [18,16] (λa b=>∃p t:Int,a=.int .u64 p/\b=.int .u64 t/\od y1 y0 v d0 p t/\t<4294967296) (λa _=>(intOf a).toNat)
      .exact⟨p,t,rfl,rfl,Dc,om⟩
      ·
       obtain⟨p,t,rfl,rfl,D,ht4⟩:=hrel;have FO:=D.high;have E:=D.q0;have WZ:=D.r0;have I:0<=(v*4294967296+d0)/(y1*4294967296+y0):=kI om om;have ll:Hx (v<y1*4294967296+y0):=ae (by rw[C.o];exact Z);have J:=ae D;by_cases zK:4294967296<=p
       .have j:=jm J m l ll G (.inl zK);have K:=ae (jn J m I j);have K7:1<=p:=om;by_cases B:4294967296<=t+y1
        .have z:=ae (jo K m l F oK om B);have⟨M,O⟩:=fl (T:=v*4294967296+d0) (Y:=Y) (q:=(p-1)) (by rw[<-C.o];exact z) om;have P:Hx ((p-1)<4294967296):=ae (by have:=z.o;omega);have S:0<=(p-1):=by have:=z.o;omega
         generalize U:(p-1)=p1 at*;have HX:Hx (p1*Y+(v*4294967296+d0-p1*Y)=v*4294967296+d0):=ae om;have H6:IntKind.u64.wrap (IntKind.u64.wrap (IntKind.u64.wrap (v*4294967296)+d0)-IntKind.u64.wrap (p1*Y))=v*4294967296+d0-p1*Y:=by
          rw[bq,bq,bq,bq];omega
         have V:=P.o;generalize zL:v*4294967296+d0-p1*Y=x at*;have FF:=ae (FN.o R p1 v x HV HX M O)
         go_wp2
         go_ret2;exact⟨by rw[zl.o,<-FF.o.1,<-FF.o.2];rfl,aV _ _⟩
        .go_wp2
         go_round
         .exact⟨p-1,t+y1,rfl,rfl,K,om⟩
         .simp[intOf];omega
       .have Tj:0<=p*y0:=jF E l;have Tk:p*y0<=4294967295*4294967295:=lO om om l om;by_cases Q:4294967296*t+d0<p*y0
        .have j:=jm J m l ll G (.inr Q);have K:=ae (jn J m I j);have K7:1<=p:=om;by_cases B:4294967296<=t+y1
         .have z:=ae (jo K m l F oK om B);have⟨M,O⟩:=fl (T:=v*4294967296+d0) (Y:=Y) (q:=(p-1)) (by rw[<-C.o];exact z) om;have P:Hx ((p-1)<4294967296):=ae (by have:=z.o;omega);have S:0<=(p-1):=by have:=z.o;omega
          generalize U:(p-1)=p1 at*;have HX:Hx (p1*Y+(v*4294967296+d0-p1*Y)=v*4294967296+d0):=ae om;have H6:IntKind.u64.wrap (IntKind.u64.wrap (IntKind.u64.wrap (v*4294967296)+d0)-IntKind.u64.wrap (p1*Y))=v*4294967296+d0-p1*Y:=by
           rw[bq,bq,bq,bq];omega
          have V:=P.o;generalize zL:v*4294967296+d0-p1*Y=x at*;have FF:=ae (FN.o R p1 v x HV HX M O)
          go_wp2
          go_ret2;exact⟨by rw[zl.o,<-FF.o.1,<-FF.o.2];rfl,aV _ _⟩
         .go_wp2
          go_round
          .exact⟨p-1,t+y1,rfl,rfl,K,om⟩
          .simp[intOf];omega
        .have z:=ae (oL J m l om);have⟨M,O⟩:=fl (T:=v*4294967296+d0) (Y:=Y) (q:=p) (by rw[<-C.o];exact z) om;have P:Hx (p<4294967296):=ae (by have:=z.o;omega);have S:0<=p:=by have:=z.o;omega
         generalize U:p=p1 at*;have HX:Hx (p1*Y+(v*4294967296+d0-p1*Y)=v*4294967296+d0):=ae om;have H6:IntKind.u64.wrap (IntKind.u64.wrap (IntKind.u64.wrap (v*4294967296)+d0)-IntKind.u64.wrap (p1*Y))=v*4294967296+d0-p1*Y:=by
          rw[bq,bq,bq,bq];omega
         have V:=P.o;generalize zL:v*4294967296+d0-p1*Y=x at*;have FF:=ae (FN.o R p1 v x HV HX M O)
         go_wp2
         go_ret2;exact⟨by rw[zl.o,<-FF.o.1,<-FF.o.2];rfl,aV _ _⟩
     .go_wp2
      go_round
      .exact⟨q-1,r+y1,rfl,rfl,HN,om⟩
      .simp[intOf];omega
    .have HQ:=ae (oL HD m l om);have⟨H5,Z⟩:=fl (T:=u*4294967296+d1) (Y:=Y) (q:=q) (by rw[<-C.o];exact HQ) om;have Ti:Hx (q<4294967296):=ae (by have:=HQ.o;omega);have ZO:0<=q:=by have:=HQ.o;omega
     generalize ZP:q=R at*;have HV:Hx (R*Y+(u*4294967296+d1-R*Y)=u*4294967296+d1):=ae om;have E21:IntKind.u64.wrap (IntKind.u64.wrap (IntKind.u64.wrap (u*4294967296)+d1)-IntKind.u64.wrap (R*Y))=u*4294967296+d1-R*Y:=by
      rw[bq,bq,bq,bq];omega
     have ZQ:=Ti.o;generalize hve:u*4294967296+d1-R*Y=v at*;have⟨g1,g2,g3⟩:=pH (u:=v) (y1:=y1) H5 om;have X:=pG m Np l F H5 (by rw[C.o];exact Z) oK G;have DL2:=ut (y1:=y1) (y0:=y0) (u:=v) (d:=d0) m l (by rw[C.o];exact Z) G;have FO:=X.high;have E:=X.q0;generalize uj:v/y1=p at*;generalize OC:v-p*y1=t at*;have Dc:=ae X
     go_wp2
     go_loop [18,16] (λa b=>∃p t:Int,a=.int .u64 p/\b=.int .u64 t/\od y1 y0 v d0 p t/\t<4294967296) (λa _=>(intOf a).toNat)
     .exact⟨p,t,rfl,rfl,Dc,om⟩
     ·
      obtain⟨p,t,rfl,rfl,D,ht4⟩:=hrel;have FO:=D.high;have E:=D.q0;have WZ:=D.r0;have I:0<=(v*4294967296+d0)/(y1*4294967296+y0):=kI om om;have ll:Hx (v<y1*4294967296+y0):=ae (by rw[C.o];exact Z);have J:=ae D;by_cases zK:4294967296<=p
      .have j:=jm J m l ll G (.inl zK);have K:=ae (jn J m I j);have K7:1<=p:=om;by_cases B:4294967296<=t+y1
       .have z:=ae (jo K m l F oK om B);have⟨M,O⟩:=fl (T:=v*4294967296+d0) (Y:=Y) (q:=(p-1)) (by rw[<-C.o];exact z) om;have P:Hx ((p-1)<4294967296):=ae (by have:=z.o;omega);have S:0<=(p-1):=by have:=z.o;omega
        generalize U:(p-1)=p1 at*;have HX:Hx (p1*Y+(v*4294967296+d0-p1*Y)=v*4294967296+d0):=ae om;have H6:IntKind.u64.wrap (IntKind.u64.wrap (IntKind.u64.wrap (v*4294967296)+d0)-IntKind.u64.wrap (p1*Y))=v*4294967296+d0-p1*Y:=by
         rw[bq,bq,bq,bq];omega
        have V:=P.o;generalize zL:v*4294967296+d0-p1*Y=x at*;have FF:=ae (FN.o R p1 v x HV HX M O)
        go_wp2
        go_ret2;exact⟨by rw[zl.o,<-FF.o.1,<-FF.o.2];rfl,aV _ _⟩
       .go_wp2
        go_round
        .exact⟨p-1,t+y1,rfl,rfl,K,om⟩
        .simp[intOf];omega
      .have Tj:0<=p*y0:=jF E l;have Tk:p*y0<=4294967295*4294967295:=lO om om l om;by_cases Q:4294967296*t+d0<p*y0
       .have j:=jm J m l ll G (.inr Q);have K:=ae (jn J m I j);have K7:1<=p:=om;by_cases B:4294967296<=t+y1
        .have z:=ae (jo K m l F oK om B);have⟨M,O⟩:=fl (T:=v*4294967296+d0) (Y:=Y) (q:=(p-1)) (by rw[<-C.o];exact z) om;have P:Hx ((p-1)<4294967296):=ae (by have:=z.o;omega);have S:0<=(p-1):=by have:=z.o;omega
         generalize U:(p-1)=p1 at*;have HX:Hx (p1*Y+(v*4294967296+d0-p1*Y)=v*4294967296+d0):=ae om;have H6:IntKind.u64.wrap (IntKind.u64.wrap (IntKind.u64.wrap (v*4294967296)+d0)-IntKind.u64.wrap (p1*Y))=v*4294967296+d0-p1*Y:=by
          rw[bq,bq,bq,bq];omega
         have V:=P.o;generalize zL:v*4294967296+d0-p1*Y=x at*;have FF:=ae (FN.o R p1 v x HV HX M O)
         go_wp2
         go_ret2;exact⟨by rw[zl.o,<-FF.o.1,<-FF.o.2];rfl,aV _ _⟩
        .go_wp2
         go_round
         .exact⟨p-1,t+y1,rfl,rfl,K,om⟩
         .simp[intOf];omega
       .have z:=ae (oL J m l om);have⟨M,O⟩:=fl (T:=v*4294967296+d0) (Y:=Y) (q:=p) (by rw[<-C.o];exact z) om;have P:Hx (p<4294967296):=ae (by have:=z.o;omega);have S:0<=p:=by have:=z.o;omega
        generalize U:p=p1 at*;have HX:Hx (p1*Y+(v*4294967296+d0-p1*Y)=v*4294967296+d0):=ae om;have H6:IntKind.u64.wrap (IntKind.u64.wrap (IntKind.u64.wrap (v*4294967296)+d0)-IntKind.u64.wrap (p1*Y))=v*4294967296+d0-p1*Y:=by
         rw[bq,bq,bq,bq];omega
        have V:=P.o;generalize zL:v*4294967296+d0-p1*Y=x at*;have FF:=ae (FN.o R p1 v x HV HX M O)
        go_wp2
        go_ret2;exact⟨by rw[zl.o,<-FF.o.1,<-FF.o.2];rfl,aV _ _⟩
def Tl(x y:Int)(w:aa)(N:bb x)(O:bb y):
  () 176 #[x,y] w λe w'=>e=.returned (fdiv x y:Int)/\Below w.1.size w w':=by
 by_cases z:y=0
 .subst z;by_cases B:x=0
  .subst B
   go_in
   go_wp2
   go_ret;exact⟨bC am,aV _ _⟩
  .have hb:(x==0)=false:=by simpa using B
   have m:Hx (fdiv x 0=km (decide (x<0))):=ae (by simp[fdiv,B])
   go_in
   go_wp2_with fail
   refine(l8 _ w).mono ?_;rintro e w' ⟨rfl,rfl⟩
   go_wp2
   go_ret;exact⟨bC m.o.symm,aV _ _⟩
 .have hb:(y==0)=false:=by simpa using z
  have⟨a0,a1⟩:=iK N;have⟨b0,b1⟩:=iK O;have Y:1<=kV y:=by unfold kV;split<;>omega
  have F:Hx (fdiv x y=ha (B0 (kV x*4294967296) (kV y)) (oz x y)):=ae (by rw[fdiv,ag z]);have P:=ae (rG x w N);have Q:=ae (rG y w O);have C:Hx ((!decide (x<0)==decide (y<0))=oz x y):=rfl;generalize kV x=a at*;generalize kV y=b at*;have el:IntKind.u64.wrap (a*4294967296)=a*4294967296%18446744073709551616:=bq _;have I:Hx (a/4294967296*18446744073709551616+a*4294967296%18446744073709551616=a*4294967296):=ae om;have U:0<=a*4294967296%18446744073709551616:=om;have l1:a*4294967296%18446744073709551616<=18446744073709551615:=om;have c0:0<=a/4294967296:=om;have c1:a/4294967296<=2147483648:=om;generalize Z:a*4294967296=M at*;generalize M%18446744073709551616=lo at*;generalize hH:a/4294967296=hi at*;have V:Hx (0<=M):=ae om
  go_in
  go_wp2_with fail
  refine P.o.mono ?_;rintro e w' ⟨rfl,rfl⟩
  go_wp2_with fail
  refine Q.o.mono ?_;rintro e w' ⟨rfl,rfl⟩;by_cases D:b<=hi
  .have m:Hx (fdiv x y=km (oz x y)):=ae (by
    have hs:=I.o;have:9223372036854775808<=M/b:=(xY om).2 (by
     have:9223372036854775808*b<=9223372036854775808*hi:=rp D am;omega)
    rw[F.o,ha,ah];unfold B0;split<;>omega)
   go_wp2_with fail
   rw[C.o];refine(l8 _ w).mono ?_;rintro e w' ⟨rfl,rfl⟩
   go_wp2
   go_ret;exact⟨bC m.o.symm,aV _ _⟩
  .have J:hi<b:=om;have K:=ae (H4 hi lo b w c0 J om U l1);rw[I.o]at K;have L:Hx (B0 M b=if b<2*(M%b)\/(2*(M%b)=b/\(M/b)%2=1)then M/b+1 else M/b):=rfl;have q0:0<=M/b:=kI V.o om;have X:M/b<=18446744073709551615:=by
    have:M/b<18446744073709551616:=tD om (by
     have hs:=I.o;have:18446744073709551616*(hi+1)<=18446744073709551616*b:=rp om am;omega)
    omega
   have r0:0<=M%b:=xS _ om;have r1:M%b<b:=xN _ om;generalize M/b=q at*;generalize M%b=r at*;have R:=G7 q q0 X
   go_wp2_with fail
   refine K.o.mono ?_;rintro e G ⟨rfl,u⟩;clear K P Q;by_cases S:9223372036854775808<=q
   .have m:Hx (fdiv x y=km (oz x y)):=ae (by
     rw[F.o,ha,ah];rw[L.o];split<;>omega)
    go_wp2_with fail
    rw[C.o];refine(l8 _ G).mono ?_;rintro e w' ⟨rfl,rfl⟩
    go_wp2_with fail
    go_ret;exact⟨bC m.o.symm,u⟩
   .by_cases j:b<2*r\/(2*r=b/\q%2=1)
    .have m:Hx (fdiv x y=ha (q+1) (oz x y)):=ae (by rw[F.o,L.o,ah j]);rcases j with j|⟨j,l⟩
     focus
      have d1:decide (b-r<r)=true:=by simp;omega
     rotate_left
     focus
      have d1:decide (b-r<r)=false:=by simp;omega
      have T:(r==b-r)=true:=by simp;omega
      rw[l]at R;clear j l
     all_goals
      go_wp2_with fail
      rw[C.o];refine(ji (q+1) _ G om om).mono ?_;rintro e w' ⟨rfl,rfl⟩
      go_wp2_with fail
      go_ret;exact⟨bC m.o.symm,u⟩
    .have m:Hx (fdiv x y=ha q (oz x y)):=ae (by rw[F.o,L.o,ag j]);by_cases E:2*r=b
     .have d1:decide (b-r<r)=false:=by simp;omega
      have T:(r==b-r)=true:=by simp;omega
      have l:q%2=0:=om;rw[l]at R;clear j l E
      go_wp2_with fail
      rw[C.o];refine(ji q _ G om om).mono ?_;rintro e w' ⟨rfl,rfl⟩
      go_wp2_with fail
      go_ret;exact⟨bC m.o.symm,u⟩
     .have d1:decide (b-r<r)=false:=by simp;omega
      have T:(r==b-r)=false:=by simp;omega
      clear j E
      go_wp2_with fail
      rw[C.o];refine(ji q _ G om om).mono ?_;rintro e w' ⟨rfl,rfl⟩
      go_wp2
      go_ret;exact⟨bC m.o.symm,u⟩
def aaF(w:aa)(zs xs:au)(n m:Nat)(e:Ending)(w':aa):Prop:=
 ∃g b,e=.returned (.tuple #[.agg #[.slice (some ⟨g,0,none⟩) n n,.slice (some ⟨b,0,none⟩) m m],an])/\w.1.size<=g/\w.1.size<=b/\Own w' g 3 zs/\Own w' b 65 xs/\aj w' w
def Dd[a:Sl w A n zs](b:n<=1000000)(hr:aA zs=true)(hp:Hx (ax zs=(m:Int))):() 62 #[(A,n,c),z] w (aaF w zs (List.replicate m z) n m):=by
 obtain⟨a,rfl⟩:=a;exact(wE A c zs z m w b a hr hp).mono λ_ _ ⟨g,e,j,l,r,o1,u,hb⟩=>⟨g,e,by rw[j,eY],l,r,o1,u,⟨hb⟩⟩
end Go.Proofs.YtmkjnlifimffkaaGreat
