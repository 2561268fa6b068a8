/- Lemmas. -/
import Derived.Test.YtmkjnlifimffkaaGreatG05
import Derived.Test.YtmkjnlifimffkaaGreatG02
import Derived.LoopN
namespace Go.Proofs.YtmkjnlifimffkaaGreat
open Go.RowKit Tryz
set_option linter.all false
set_option maxRecDepth 100000
set_option maxHeartbeats 0
variable{Γ:Prop}
attribute[local irreducible]Calls
section
variable{P:Program}
def mT(zs xs:au):Bool:=aw zs xs&&decide (zs.length=2)
def aba(A B:bz)(c d:Nat)(zs xs:au)(w:ab)(m:zs.length<=1000000)(h:Rd w A zs):
  () 214 #[.agg #[.slice A zs c,.slice B xs d]] w (o0 w (.bool (mT zs xs))):=by
 have b:=(aY w.1.size w).alloc (al _) (.cells #[.slice A zs c,.slice B xs d] 28);have k1:=aA.new w 28 #[.slice A zs c,.slice B xs d];rcases hr:aw zs xs with _|_
 .have j:=U hr;have l:Z (mT zs xs=false):=U (by simp[mT,hr]);go_in;go_wp2_with fail;refine(eO A B c d zs xs _ m (h.below b)).mono ?_;rintro e w1 ⟨rfl,hb⟩;rw[j.o];go_wp2;go_ret;exact⟨bR l.o.symm,dm b hb⟩
 have j:=U hr;have l:Z (mT zs xs=((zs.length:Int)==2)):=U (by rw[mT,hr,z9,zR];simp;omega);go_in;go_wp2_with fail;refine(eO A B c d zs xs _ m (h.below b)).mono ?_;rintro e w1 ⟨rfl,hb⟩;rw[j.o];replace k1:=k1.keep hb;replace b:=dm b hb;have⟨q0,q1⟩:=bM k1;go_wp2;go_ret;exact⟨bR l.o.symm,b⟩
def J5(t:TypeId)(ht:P.underlying t=some (.slice (P.elem t)))(hs:(P.info? (P.elem t)).map (·.size)=some 1)(b off l c k m:Nat)(i j:Int)(hi:i=(k:Int))(r:j=(m:Int))(u:k<m)(hm:m<=c)(w:ab):
  (Instr.slice t (.slice (some ⟨b,off,none⟩) l c) (some (.int .i64 i)) (some (.int .i64 j)) (some (.int .i64 j))).run P w=.ok (.slice (some ⟨b,off+k,none⟩) (m-k) (m-k)) w:=by
 subst hi r;rw[Ae w t (some ⟨b,off,none⟩) l c ht .i64 .i64 .i64 k m m Y Y Y Y,e1 hs];have:¬m=k:=Y;by_cases e:k=0;subst e;simp[Result.andThen,sliced,this,Addr.add];simp[Result.andThen,sliced,this,Addr.add,e]
def abb(A:bz)(b off c d M N i S:Nat)(xs:au)(w:ab)(hd:xs.length<=d)(B:M<=1024)(hN:N<=1024)(m:1<=N)(r:Z (xs.length=M*N))(u:xs.length<=65536)(hi:i<M)(hS:Z (i*N=S))(h:Rd w A [(M:Int),(N:Int)]):
  () 169 #[.agg #[(A,2,c),.slice (some ⟨b,off,none⟩) xs d],i] w λe w'=>e=.returned (.slice (some ⟨b,off+S,none⟩) N N)/\w'=w.alloc (.cells #[(A,2,c),.slice (some ⟨b,off,none⟩) xs d] 28):=by
 obtain⟨C,oa,rfl,y,z⟩:=(h.alloc (.cells #[(A,2,c),.slice (some ⟨b,off,none⟩) xs d] 28)) 1 (N:Int) rfl;have l:S+N<=xs.length:=by rw[r.o,<-hS.o,<-f7];exact cV _ hi
 have m1:(i:Int)*(N:Int)=(S:Int):=by rw[<-hS.o,cH]
 have D:((i:Int)+1)*(N:Int)=(S:Int)+N:=by rw[l0,m1,uX]
 have j:=J5 (P:=prog) 26 ap ap b off xs.length d S (S+N) (S:Int) ((S:Int)+N) rfl Y Y Y;rw[uN]at j;go_in;go_wp2;go_ret;exact⟨rfl,rfl⟩
def abc(A B C D:bz)(c d u d':Nat)(zs xs ts b:au)(w:ab)(E:zs.length<=1000000)(ht:ts.length<=1000000)
  (F:Rd w A zs) (G:Rd w B xs) (I:Rd w C ts) (J:Rd w D b) (K:Z (∀z∈xs,bf z)) (L:Z (∀z∈b,bf z)):
  () 159 #[.agg #[.slice A zs c,.slice B xs d],.agg #[.slice C ts u,.slice D b d']] w (fF w (Eo ts b zs xs) (Ep ts b zs xs) (SF ts b zs xs)):=by
 have j:=(((aY w.1.size w).alloc (al _) (.cells #[.slice A zs c,.slice B xs d] 28)).alloc aI (.cells #[.slice C ts u,.slice D b d'] 28)).alloc ch (.cells #[(),()] 28);have l:=aA.eF ((w.alloc (.cells #[.slice A zs c,.slice B xs d] 28)).alloc (.cells #[.slice C ts u,.slice D b d'] 28)) 28 #[(),()] (n:=w.1.size+1+1) aI;go_in;go_wp2_with fail;refine(ac7 C D A B u d' c d ts b zs xs _ ht E (I.below j) (J.below j) (F.below j) (G.below j) L K).mono ?_;rintro e w1 ⟨m,c1,r,d1,rfl,oS,y,hb⟩;replace oS:=oS.more (B':=w.1.size) j.size;replace y:=y.more (B':=w.1.size) j.size;replace l:=l.keep hb;replace j:=dm j hb;have⟨q0,q1⟩:=bM l;have Q:=l.frozen 0;have f1:=l.frozen 1;have n1:=oS.aF l ao;have n2:=y.aF l ao;go_wp2;have M:=l.bP (.slice m (Eo ts b zs xs).length c1) (.slice r (Ep ts b zs xs).length d1);have N:=bA j (p:=w.1.size+1+1) Y (.slice m (Eo ts b zs xs).length c1) (.slice r (Ep ts b zs xs).length d1);have O:=oS.bH n1 (.slice m (Eo ts b zs xs).length c1) (.slice r (Ep ts b zs xs).length d1);have P:=y.bH n2 (.slice m (Eo ts b zs xs).length c1) (.slice r (Ep ts b zs xs).length d1);have⟨q0,q1⟩:=bM M;exact aZ (v:=.tuple #[.agg #[.slice m (Eo ts b zs xs).length c1,.slice r (Ep ts b zs xs).length d1],.int .i64 (SF ts b zs xs)]) (by simp[results,results159,go_sem,q0,q1]) rfl<|⟨_,_,_,_,rfl,O,P,N⟩
end
def rz(A B)(c d)(xs b)(w)(hs:xs.length<=1000000)(e:b.length<=1000000)(h:Rd w A xs)(j:Rd w B b):
  () 70 #[.slice A xs c,.slice B b d] w (o0 w (.bool (decide (xs=b)))):=
 (mj A B c d xs b w hs e h j).mono λ_ _ ⟨l,m,hm⟩=>⟨l,by rw[hm];exact below_drewN (aY _ _) m⟩
def eH(zs xs ts e j b:au):Bool:=mT zs xs&&aw ts e&&aw j b&&decide (ts=[zs.getD 0 0])&&decide ((b.length:Int)=zs.getD 1 0)
def zF3(h:Γ:=by refine oA 9 ?_;refine oA 10 ?_;refine fA 11 ?_;refine fA 12 ?_;refine fA 13 ?_;refine fA 14 ?_;refine fA 15 ?_;refine fA 16 ?_;refine fA 17 ?_;refine fA 18 ?_;refine oA 19 ?_;refine oA 20 ?_;refine fA 21 ?_;refine fA 22 ?_;refine fA 23 ?_;refine fA 24 ?_;refine fA 25 ?_;refine fA 26 ?_;refine fA 27 ?_;refine fA 28 ?_;refine oA 29 ?_;refine oA 30 ?_;refine a8 ?_;go_wp2;go_ret;exact⟨bR N.o.symm,dm Q b⟩):=h
def zFa(h:Γ:=by refine oA 29 ?_;refine oA 30 ?_;refine a8 ?_;go_wp2;go_ret;exact⟨bR N.o.symm,dm Q b⟩):=h
def zFc(h:Γ:=by refine oA 5 ?_;refine oA 6 ?_;refine fA 7 ?_;refine fA 8 ?_;exact zF3):=h
def zFl{q:Prop}(h:q)(k:q->Γ:=by intro h;(try dsimp only[Act.put,List.setIfInBounds_toArray,List.set_cons_zero,List.set_cons_succ]);exact h):=k h
def J7(A B C D E F:bz)(c d y d' I J:Nat)(zs xs ts r m u:au)(w:ab)(WN:zs.length<=1000000)(T:ts.length<=1000000)(ud:m.length<=1000000)(M:Rd w A zs)(P:Rd w C ts)(h5:Rd w E m):
  () 168 #[.agg #[.slice A zs c,.slice B xs d],.agg #[.slice C ts y,.slice D r d'],.agg #[.slice E m I,.slice F u J]] w (o0 w (.bool (eH zs xs ts r m u))):=by
 have Q:=(((aY w.1.size w).alloc (al _) (.cells #[.slice A zs c,.slice B xs d] 28)).alloc aI (.cells #[.slice C ts y,.slice D r d'] 28)).alloc ch (.cells #[.slice E m I,.slice F u J] 28);have k1:=((aA.new w 28 #[.slice A zs c,.slice B xs d]).alloc (.cells #[.slice C ts y,.slice D r d'] 28)).alloc (.cells #[.slice E m I,.slice F u J] 28);have k2:=(aA.eF (w.alloc (.cells #[.slice A zs c,.slice B xs d] 28)) 28 #[.slice C ts y,.slice D r d'] (n:=w.1.size+1) aI).alloc (.cells #[.slice E m I,.slice F u J] 28);have V:=aA.eF ((w.alloc (.cells #[.slice A zs c,.slice B xs d] 28)).alloc (.cells #[.slice C ts y,.slice D r d'] 28)) 28 #[.slice E m I,.slice F u J] (n:=w.1.size+1+1) aI;replace M:=M.below Q;replace P:=P.below Q;replace h5:=h5.below Q;have L:=U λ(w':ab) (h:Rd w' A zs)=>aba A B c d zs xs w' WN h;have R:=U λ(w':ab) (h:Rd w' C ts)=>eO C D y d' ts r w' T h;have X:=U λ(w':ab) (h:Rd w' E m)=>eO E F I J m u w' ud h;rcases q1:mT zs xs with _|_
 .rw[q1]at L;have N:Z (eH zs xs ts r m u=false):=U (by simp[eH,q1]);go_in;go_wp2;generalize((w.alloc (.cells #[.slice A zs c,.slice B xs d] 28)).alloc (.cells #[.slice C ts y,.slice D r d'] 28)).alloc (.cells #[.slice E m I,.slice F u J] 28)=W0 at*;have l:Z (∀w':World,Below (W0).1.size (W0) w'->Below (W0).1.size (W0) w'/\w'.cell? (w.1.size,0)=some (.slice A zs c)/\w'.cell? (w.1.size,1)=some (.slice B xs d)):=λw' j=>⟨j,(k1.keep j).cell 0,(k1.keep j).cell 1⟩;refine wp_region_held_drew (S:=λw'=>Below (W0).1.size (W0) w'/\w'.cell? (w.1.size,0)=some (.slice A zs c)/\w'.cell? (w.1.size,1)=some (.slice B xs d)) ap (l.o _ (aY _ _).drew) (λhHeld=>?_);have b:Below (W0).1.size (W0) (W0).drew:=(aY _ _).drew;refine oA 0 ?_;refine aJ 1 λK hK=>?_;go_simp;refine(L.o _ (M.below b)).mono ?_;rintro e w1 ⟨rfl,hb⟩;replace b:=dm b hb;refine hK.out _ _ (l.o _ b) (λhHeld=>?_);refine zFl ?_;refine oA 2 ?_;refine fA 3 ?_;refine fA 4 ?_;exact zFc
 rcases q2:aw ts r with _|_
 .rw[q1]at L;rw[q2]at R;have N:Z (eH zs xs ts r m u=false):=U (by simp[eH,q2]);go_in;go_wp2;generalize((w.alloc (.cells #[.slice A zs c,.slice B xs d] 28)).alloc (.cells #[.slice C ts y,.slice D r d'] 28)).alloc (.cells #[.slice E m I,.slice F u J] 28)=W0 at*;have l:Z (∀w':World,Below (W0).1.size (W0) w'->Below (W0).1.size (W0) w'/\w'.cell? (w.1.size,0)=some (.slice A zs c)/\w'.cell? (w.1.size,1)=some (.slice B xs d)/\w'.cell? (w.1.size+1,0)=some (.slice C ts y)/\w'.cell? (w.1.size+1,1)=some (.slice D r d')):=λw' j=>⟨j,(k1.keep j).cell 0,(k1.keep j).cell 1,(k2.keep j).cell 0,(k2.keep j).cell 1⟩;refine wp_region_held_drew (S:=λw'=>Below (W0).1.size (W0) w'/\w'.cell? (w.1.size,0)=some (.slice A zs c)/\w'.cell? (w.1.size,1)=some (.slice B xs d)/\w'.cell? (w.1.size+1,0)=some (.slice C ts y)/\w'.cell? (w.1.size+1,1)=some (.slice D r d')) ap (l.o _ (aY _ _).drew) (λhHeld=>?_);have b:Below (W0).1.size (W0) (W0).drew:=(aY _ _).drew;refine oA 0 ?_;refine aJ 1 λK hK=>?_;go_simp;refine(L.o _ (M.below b)).mono ?_;rintro e w1 ⟨rfl,hb⟩;replace b:=dm b hb;refine hK.out _ _ (l.o _ b) (λhHeld=>?_);refine zFl ?_;refine oA 2 ?_;refine oA 3 ?_;refine aJ 4 λK hK=>?_;go_simp;refine(R.o _ (P.below b)).mono ?_;rintro e w2 ⟨rfl,hb⟩;replace b:=dm b hb;refine hK.out _ _ (l.o _ b) (λhHeld=>?_);refine zFl ?_;exact zFc
 rcases q3:aw m u with _|_
 .rw[q1]at L;rw[q2]at R;rw[q3]at X;have N:Z (eH zs xs ts r m u=false):=U (by simp[eH,q3]);go_in;go_wp2;generalize((w.alloc (.cells #[.slice A zs c,.slice B xs d] 28)).alloc (.cells #[.slice C ts y,.slice D r d'] 28)).alloc (.cells #[.slice E m I,.slice F u J] 28)=W0 at*;have l:Z (∀w':World,Below (W0).1.size (W0) w'->Below (W0).1.size (W0) w'/\w'.cell? (w.1.size,0)=some (.slice A zs c)/\w'.cell? (w.1.size,1)=some (.slice B xs d)/\w'.cell? (w.1.size+1,0)=some (.slice C ts y)/\w'.cell? (w.1.size+1,1)=some (.slice D r d')/\w'.cell? (w.1.size+1+1,0)=some (.slice E m I)/\w'.cell? (w.1.size+1+1,1)=some (.slice F u J)):=λw' j=>⟨j,(k1.keep j).cell 0,(k1.keep j).cell 1,(k2.keep j).cell 0,(k2.keep j).cell 1,(V.keep j).cell 0,(V.keep j).cell 1⟩;refine wp_region_held_drew (S:=λw'=>Below (W0).1.size (W0) w'/\w'.cell? (w.1.size,0)=some (.slice A zs c)/\w'.cell? (w.1.size,1)=some (.slice B xs d)/\w'.cell? (w.1.size+1,0)=some (.slice C ts y)/\w'.cell? (w.1.size+1,1)=some (.slice D r d')/\w'.cell? (w.1.size+1+1,0)=some (.slice E m I)/\w'.cell? (w.1.size+1+1,1)=some (.slice F u J)) ap (l.o _ (aY _ _).drew) (λhHeld=>?_);have b:Below (W0).1.size (W0) (W0).drew:=(aY _ _).drew;refine oA 0 ?_;refine aJ 1 λK hK=>?_;go_simp;refine(L.o _ (M.below b)).mono ?_;rintro e w1 ⟨rfl,hb⟩;replace b:=dm b hb;refine hK.out _ _ (l.o _ b) (λhHeld=>?_);refine zFl ?_;refine oA 2 ?_;refine oA 3 ?_;refine aJ 4 λK hK=>?_;go_simp;refine(R.o _ (P.below b)).mono ?_;rintro e w2 ⟨rfl,hb⟩;replace b:=dm b hb;refine hK.out _ _ (l.o _ b) (λhHeld=>?_);refine zFl ?_;refine oA 5 ?_;refine oA 6 ?_;refine oA 7 ?_;refine aJ 8 λK hK=>?_;go_simp;refine(X.o _ (h5.below b)).mono ?_;rintro e w3 ⟨rfl,hb⟩;replace b:=dm b hb;refine hK.out _ _ (l.o _ b) (λhHeld=>?_);refine zFl ?_;exact zF3
 have rm:zs.length=2:=by simp[mT]at q1;exact q1.2
 obtain⟨z0,z1,rfl⟩:∃z0 z1,zs=[z0,z1]:=by
  match zs,rm with
  |[z0,z1],_=>exact⟨z0,z1,rfl⟩
 obtain⟨G,oa,rfl,O,hca⟩:=M 0 z0 rfl;have xm:=M.all (k:=1) (z:=z1) rfl;by_cases q4:ts=[z0]
 .rw[q1]at L;rw[q2]at R;rw[q3]at X;have N:Z (eH [z0,z1] xs ts r m u=((u.length:Int)==z1)):=U (by rw[eH,q1,q2,q3,q4,zR];simp);have CE:=U λ(g:Nat) (w':ab) (h:Rd w' C ts) (ho:Own w' g 3 [z0])=>rz C g y 1 ts [z0] w' T aI h ho.rd;rw[ea q4]at CE;clear q1 q2 q3 q4;go_in;go_wp2_with fail;generalize((w.alloc (.cells #[.slice (some ⟨G,oa,none⟩) 2 c,.slice B xs d] 28)).alloc (.cells #[.slice C ts y,.slice D r d'] 28)).alloc (.cells #[.slice E m I,.slice F u J] 28)=W0 at*;obtain⟨t0,t1⟩:W0.cell? (G,oa)=some (.int .i64 z0)/\W0.cell? (G,oa+1)=some (.int .i64 z1):=⟨hca,xm⟩;have l:Z (∀w':World,Below (W0).1.size (W0) w'->Below (W0).1.size (W0) w'/\w'.cell? (w.1.size,0)=some (.slice (some ⟨G,oa,none⟩) 2 c)/\w'.cell? (w.1.size,1)=some (.slice B xs d)/\w'.cell? (w.1.size+1,0)=some (.slice C ts y)/\w'.cell? (w.1.size+1,1)=some (.slice D r d')/\w'.cell? (w.1.size+1+1,0)=some (.slice E m I)/\w'.cell? (w.1.size+1+1,1)=some (.slice F u J)/\w'.cell? (G,oa)=some (.int .i64 z0)/\w'.cell? (G,oa+1)=some (.int .i64 z1)):=U (λw' j=>⟨j,(k1.keep j).cell 0,(k1.keep j).cell 1,(k2.keep j).cell 0,(k2.keep j).cell 1,(V.keep j).cell 0,(V.keep j).cell 1,(j.cell (p:=⟨_,_,_⟩) O).trans t0,(j.cell (p:=⟨_,_,_⟩) O).trans t1⟩);refine wp_region_held_drew (S:=λw'=>Below (W0).1.size (W0) w'/\w'.cell? (w.1.size,0)=some (.slice (some ⟨G,oa,none⟩) 2 c)/\w'.cell? (w.1.size,1)=some (.slice B xs d)/\w'.cell? (w.1.size+1,0)=some (.slice C ts y)/\w'.cell? (w.1.size+1,1)=some (.slice D r d')/\w'.cell? (w.1.size+1+1,0)=some (.slice E m I)/\w'.cell? (w.1.size+1+1,1)=some (.slice F u J)/\w'.cell? (G,oa)=some (.int .i64 z0)/\w'.cell? (G,oa+1)=some (.int .i64 z1)) ap (l.o _ (aY _ _).drew) (λhHeld=>?_);have b:Below (W0).1.size (W0) (W0).drew:=(aY _ _).drew;refine oA 0 ?_;refine aJ 1 λK hK=>?_;go_simp;refine(L.o _ (M.below b)).mono ?_;rintro e w1 ⟨rfl,hb⟩;replace b:=dm b hb;refine hK.out _ _ (l.o _ b) (λhHeld=>?_);refine zFl ?_;refine oA 2 ?_;refine oA 3 ?_;refine aJ 4 λK hK=>?_;go_simp;refine(R.o _ (P.below b)).mono ?_;rintro e w2 ⟨rfl,hb⟩;replace b:=dm b hb;refine hK.out _ _ (l.o _ b) (λhHeld=>?_);refine zFl ?_;refine oA 5 ?_;refine oA 6 ?_;refine oA 7 ?_;refine aJ 8 λK hK=>?_;go_simp;refine(X.o _ (h5.below b)).mono ?_;rintro e w3 ⟨rfl,hb⟩;replace b:=dm b hb;refine hK.out _ _ (l.o _ b) (λhHeld=>?_);refine zFl ?_;refine oA 9 ?_;refine oA 10 ?_;refine oA 11 ?_;refine oA 12 ?_;refine oA 13 ?_;refine oA 14 ?_;refine oA 15 ?_;refine oA 16 ?_;refine aJ 17 λK hK=>?_;go_simp;replace b:=b.alloc b.size (.cells #[.int .i64 z0] 3);refine hK.out _ _ (l.o _ b) (λhHeld=>?_);refine zFl ?_;refine aJ 18 λK hK=>?_;go_simp;refine(CE.o _ _ (P.below b) (Fk w3 3 [z0] #[.int .i64 z0] rfl)).mono ?_;rintro e w4 ⟨rfl,hb⟩;replace b:=dm b hb;refine hK.out _ _ (l.o _ b) (λhHeld=>?_);refine zFl ?_;refine oA 19 ?_;refine oA 20 ?_;refine oA 21 ?_;refine oA 22 ?_;refine oA 23 ?_;refine oA 24 ?_;refine oA 25 ?_;refine oA 26 ?_;refine oA 27 ?_;refine oA 28 ?_;exact zFa
 rw[q1]at L;rw[q2]at R;rw[q3]at X;have N:Z (eH [z0,z1] xs ts r m u=false):=U (by simp[eH,q4]);have CE:=U λ(g:Nat) (w':ab) (h:Rd w' C ts) (ho:Own w' g 3 [z0])=>rz C g y 1 ts [z0] w' T aI h ho.rd;rw[ew q4]at CE;go_in;go_wp2;generalize((w.alloc (.cells #[.slice (some ⟨G,oa,none⟩) 2 c,.slice B xs d] 28)).alloc (.cells #[.slice C ts y,.slice D r d'] 28)).alloc (.cells #[.slice E m I,.slice F u J] 28)=W0 at*;obtain⟨t0,t1⟩:W0.cell? (G,oa)=some (.int .i64 z0)/\W0.cell? (G,oa+1)=some (.int .i64 z1):=⟨hca,xm⟩;have l:Z (∀w':World,Below (W0).1.size (W0) w'->Below (W0).1.size (W0) w'/\w'.cell? (w.1.size,0)=some (.slice (some ⟨G,oa,none⟩) 2 c)/\w'.cell? (w.1.size,1)=some (.slice B xs d)/\w'.cell? (w.1.size+1,0)=some (.slice C ts y)/\w'.cell? (w.1.size+1,1)=some (.slice D r d')/\w'.cell? (w.1.size+1+1,0)=some (.slice E m I)/\w'.cell? (w.1.size+1+1,1)=some (.slice F u J)/\w'.cell? (G,oa)=some (.int .i64 z0)/\w'.cell? (G,oa+1)=some (.int .i64 z1)):=U (λw' j=>⟨j,(k1.keep j).cell 0,(k1.keep j).cell 1,(k2.keep j).cell 0,(k2.keep j).cell 1,(V.keep j).cell 0,(V.keep j).cell 1,(j.cell (p:=⟨_,_,_⟩) O).trans t0,(j.cell (p:=⟨_,_,_⟩) O).trans t1⟩);refine wp_region_held_drew (S:=λw'=>Below (W0).1.size (W0) w'/\w'.cell? (w.1.size,0)=some (.slice (some ⟨G,oa,none⟩) 2 c)/\w'.cell? (w.1.size,1)=some (.slice B xs d)/\w'.cell? (w.1.size+1,0)=some (.slice C ts y)/\w'.cell? (w.1.size+1,1)=some (.slice D r d')/\w'.cell? (w.1.size+1+1,0)=some (.slice E m I)/\w'.cell? (w.1.size+1+1,1)=some (.slice F u J)/\w'.cell? (G,oa)=some (.int .i64 z0)/\w'.cell? (G,oa+1)=some (.int .i64 z1)) ap (l.o _ (aY _ _).drew) (λhHeld=>?_);have b:Below (W0).1.size (W0) (W0).drew:=(aY _ _).drew;refine oA 0 ?_;refine aJ 1 λK hK=>?_;go_simp;refine(L.o _ (M.below b)).mono ?_;rintro e w1 ⟨rfl,hb⟩;replace b:=dm b hb;refine hK.out _ _ (l.o _ b) (λhHeld=>?_);refine zFl ?_
 refine oA 2 ?_;refine oA 3 ?_;refine aJ 4 λK hK=>?_;go_simp;refine(R.o _ (P.below b)).mono ?_;rintro e w2 ⟨rfl,hb⟩;replace b:=dm b hb;refine hK.out _ _ (l.o _ b) (λhHeld=>?_);refine zFl ?_
 refine oA 5 ?_;refine oA 6 ?_;refine oA 7 ?_;refine aJ 8 λK hK=>?_;go_simp;refine(X.o _ (h5.below b)).mono ?_;rintro e w3 ⟨rfl,hb⟩;replace b:=dm b hb;refine hK.out _ _ (l.o _ b) (λhHeld=>?_);refine zFl ?_
 refine oA 9 ?_;refine oA 10 ?_;refine oA 11 ?_;refine oA 12 ?_;refine oA 13 ?_;refine oA 14 ?_;refine oA 15 ?_;refine oA 16 ?_;refine aJ 17 λK hK=>?_;go_simp;replace b:=b.alloc b.size (.cells #[.int .i64 z0] 3);refine hK.out _ _ (l.o _ b) (λhHeld=>?_);refine zFl ?_
 refine aJ 18 λK hK=>?_;go_simp;refine(CE.o _ _ (P.below b) (Fk w3 3 [z0] #[.int .i64 z0] rfl)).mono ?_;rintro e w4 ⟨rfl,hb⟩;replace b:=dm b hb;refine hK.out _ _ (l.o _ b) (λhHeld=>?_);refine zFl ?_
 refine oA 19 ?_;refine oA 20 ?_;refine fA 21 ?_;refine fA 22 ?_;refine fA 23 ?_;refine fA 24 ?_;refine fA 25 ?_;refine fA 26 ?_;refine fA 27 ?_;refine fA 28 ?_;exact zFa
variable{i j m:Nat}{O gs xs ys:List Int}{x y z:Int}
def rA(n:Nat)(xs:au)(i:Nat):List Int:=(xs.drop (i*n)).take n
def HH{n:Nat}(h:xs.length=m*n)(hi:i<m):(rA n xs i).length=n:=by
 have:i*n+n<=m*n:=by rw[<-f7];exact cV _ hi
 simp[rA];omega
def SG{n:Nat}(h:z∈rA n xs i):z∈xs:=hJ (eS h)
def qb(xs e b:au)(i:Nat):Int:=bB (vB ((rA b.length xs i).zip b)) (e.getD i 0)
def g6(xs b e:au)(m:Nat):List Int:=(List.range m).map (qb xs b e)
def g7(xs b e)(m):(g6 xs b e m).length=m:=by simp[g6]
def Er(xs b e)(m):g6 xs b e (m+1)=g6 xs b e m++[qb xs b e m]:=by simp[g6,iK]
def fd(f:Nat->List Int)(b:au)(k:Nat):List Int:=f k++b.drop k
def mU{f:Nat->List Int}{k:Nat}(b:(f k).length=k)(e:O[k]?=some y):(fd f O k)[k]?=some y:=by
 rwa[fd,eT Y,b,eV,iF]
theorem kK{f:Nat->List Int}{k:Nat}(b:(f k).length=k)(hs:f (k+1)=f k++[z])(e:ys[k]?=some y):(fd f ys k).set k z=fd f ys (k+1):=by
 have⟨hk,_⟩:=bj.1 e;rw[fd,ky _ _ Y,b,eV,fd,hs,hM];grind [List.drop_eq_getElem_cons]
theorem mo{f:Nat->List Int}{k:Nat}(b:¬k<O.length):fd f O k=f k:=by
 grind [fd,List.drop_of_length_le]
def e8(gs b:au):List Int:=gs.flatMap λg=>b.map λv=>bw g v
def tF(gs b):(e8 gs b).length=gs.length*b.length:=by
 induction gs with
 |nil=>simp[e8]
 |cons g gs e=>rw[e8]at e;simp only[e8,mu,bh,bn,fD,e,f7];omega
theorem SH{g v:Int}(hg:gs[i]?=some g)(hv:O[j]?=some v):(e8 gs O)[i*O.length+j]?=some (bw g v):=by
 induction gs generalizing i with
 |nil=>simp at hg
 |cons a gs b=>
  have e:j<O:=ay;simp only[e8,mu];cases i with
  |zero=>grind
  |succ i=>simp at hg;rw[eT ay,bn,show(i+1)*O.length+j-O.length=i*O.length+j from ay];exact b hg
def lU(n:Nat)(xs gs:au)(j m:Nat):Int:=(List.range m).foldl (λs i=>bB s (bw (xs.getD (i*n+j) 0) (gs.getD i 0))) 0
theorem NN{n:Nat}{g:Int}(b:xs[m*n+j]?=some x)(hg:gs[m]?=some g):lU n xs gs j (m+1)=bB (lU n xs gs j m) (bw x g):=by
 grind [lU,List.range_succ]
def J8(n)(xs gs)(j m):bf (lU n xs gs j m):=by
 cases m with
 |zero=>simp[lU,bf]
 |succ m=>simp only[lU,iK,sB,uF,List.foldl_nil];exact hW _ _
def lO(n:Nat)(xs gs:au):List Int:=(List.range n).map λj=>lU n xs gs j gs.length
def fu(n:Nat)(xs gs:au)(k j:Nat):List Int:=(List.range n).map λt=>lU n xs gs t (if t<j then k+1 else k)
def J9{n:Nat}{k:Nat}(b:j<n):(fu n xs gs k j)[j]?=some (lU n xs gs j k):=by
 simp[fu,b]
theorem HI{n:Nat}{k:Nat}{g:Int}(b:j<n)(e:xs[k*n+j]?=some x)(hg:gs[k]?=some g):
  (fu n xs gs k j).set j (bB (lU n xs gs j k) (bw x g))=fu n xs gs k (j+1):=by
 apply eo;intro i;rw[iI];by_cases hi:j=i;grind [fu,NN];rw[ag hi];simp only[fu,bo];grind
theorem HJ(n)(xs gs)(k):fu n xs gs k n=fu n xs gs (k+1) 0:=by
 apply iG;grind
def Es(n)(xs gs):fu n xs gs 0 0=List.replicate n 0:=by
 rw[zP];refine⟨by simp[fu],λz b=>?_⟩;obtain⟨t,_,rfl⟩:=cw.1 b;simp[lU]
def HK(n)(xs gs):fu n xs gs gs.length 0=lO n xs gs:=by simp[fu,lO]
theorem Et{l:au}{p:Nat}(h:l[p]?=some z):l.take (p+1)=l.take p++[z]:=by
 grind [List.getElem?_eq_some_iff,List.take_succ_eq_append_getElem]
section
variable{P:Program}{args:Array Value}{v:Value}{b off:Nat}{zs:List Int}
section
section
variable{f:FuncId}{w:World}
def NO(h:Calls P f args w λe w'=>e=.returned v/\w=w'):Calls P f args w (o0 w v):=h.mono λ_ _ ⟨b,j⟩=>⟨b,j▸aY _ _⟩
def NP{n:Int}(h:Calls P f args w (yz w n)):Calls P f args w (o0 w n):=h.mono λ_ _ ⟨b,m,e⟩=>⟨b,e▸below_drewN (aY _ _) m⟩
end
def xn(A:bz)(b off c d M N i S:Nat)(xs:au)(w:ab)(hd:xs.length<=d)(l:M<=1024)(hN:N<=1024)(e:1<=N)(m:Z (xs.length=M*N))(j:xs.length<=65536)(hi:i<M)(hS:Z (i*N=S))(h:Rd w A [(M:Int),(N:Int)]):
  () 169 #[.agg #[(A,2,c),.slice (some ⟨b,off,none⟩) xs d],i] w (o0 w (.slice (some ⟨b,off+S,none⟩) N N)):=
 (abb A b off c d M N i S xs w hd l hN e m j hi hS h).mono λ_ _ ⟨r,u⟩=>⟨r,u▸(aY _ _).alloc (al _) _⟩
theorem Rd.row{w:ab}(h:Rd w (some ⟨b,off,none⟩) xs)(n i:Nat):Rd w (some ⟨b,off+i*n,none⟩) (rA n xs i):=by
 intro j z l;have m:xs[i*n+j]?=some z:=by rw[rA,ji]at l;split at l;grind;cases l
 obtain⟨u,r,e,hb,y⟩:=h _ _ m;grind
theorem yH{ts l e:au}(h:eH zs xs ts O l e=true):
  ∃M N:Nat,zs=[(M:Int),(N:Int)]/\ts=[(M:Int)]/\xs.length=M*N/\O.length=M/\e.length=N/\1<=M/\1<=N/\M<=1024/\N<=1024/\xs.length<=65536/\aw zs xs=true/\aw ts O=true/\aw l e=true:=by
 simp only[eH,mT,bU,b9]at h;have⟨⟨⟨⟨⟨h1,h2⟩,h3⟩,h4⟩,h5⟩,h6⟩:=h;obtain⟨z0,z1,rfl⟩:∃z0 z1,zs=[z0,z1]:=by
  match zs,h2 with
  |[z0,z1],_=>grind
 have⟨g1,g2⟩:=(aS _ _).1 h1;have⟨k1,k2⟩:=(aS _ _).1 h3;obtain⟨-,-,b,j⟩:=(ba _).1 g1;have a0:=bW b (z:=z0) aI;have m:=bW b (z:=z1) aI;obtain⟨M,rfl,r⟩:=lw a0.1;obtain⟨N,rfl,hN⟩:=lw m.1;simp at h5 h6;subst h5;simp[aB]at g2 k2 j;grind
def SJ(A B C D E F:bz)(c d c' d' e' T:Nat)(zs xs ts j V u:au)(w:ab)(hd:xs.length<=d)(ud:V.length<=1000000)(h1:Rd w A zs)(h2:Rd w B xs)(h3:Rd w C ts)(h4:Rd w D j)(h5:Rd w E V)(h6:Rd w F u)(hx:Z (∀z∈xs,bf z))(hy:Z (∀z∈j,bf z))(hv:Z (∀z∈u,bf z))(hr:Z (eH zs xs ts j V u=true)):
  () 158 #[.agg #[.slice A zs c,.slice B xs d],.agg #[.slice C ts c',.slice D j d'],.agg #[.slice E V e',.slice F u T]] w (fF w ts (g6 xs j u j.length) 0):=by
 obtain⟨M,N,rfl,rfl,X,vi,oG,Ea,Ec,hM,hN,Bm,-,-,-⟩:=yH hr.o;have oI:=U X;have HYL:=U vi;have zi:=U oG;have hyM:j.length<=1024:=Y;have hvN:u.length<=1024:=Y;have qU:0<xs.length:=by rw[X];exact kY Ea Ec
 obtain⟨bx,ox,x0,rfl,-,-,-⟩:=h2.get (k:=0) qU;clear X vi oG;have kW:=aA.new w 28 #[(A,2,c),.slice (some ⟨bx,ox,none⟩) xs d];have kB:=aA.eF (w.alloc (.cells #[(A,2,c),.slice (some ⟨bx,ox,none⟩) xs d] 28)) 28 #[(C,1,c'),.slice D j d'] (n:=w.1.size+1) aI;have kX:=aA.eF ((w.alloc (.cells #[(A,2,c),.slice (some ⟨bx,ox,none⟩) xs d] 28)).alloc (.cells #[(C,1,c'),.slice D j d'] 28)) 28 #[.slice E V e',.slice F u T] (n:=w.1.size+1+1) aI;have kR:=aA.eF (((w.alloc (.cells #[(A,2,c),.slice (some ⟨bx,ox,none⟩) xs d] 28)).alloc (.cells #[(C,1,c'),.slice D j d'] 28)).alloc (.cells #[.slice E V e',.slice F u T] 28)) 28 #[(),()] (n:=w.1.size+1+1+1) aI;go_in;go_wp2_with fail;refine(J7 A (some ⟨bx,ox,none⟩) C D E F c d c' d' e' T [(M:Int),(N:Int)] xs [(M:Int)] j V u _ aI aI ud h1.at h3.at h5.at).mono ?_;rintro e w1 ⟨rfl,hb⟩;have xo:=aj.mk hb;clear hb;rw[hr.o];have vp:=(kR.at (w':=w1)).lt;obtain⟨q0,q1⟩:=bM (kB.at (w':=w1));go_wp2_with fail;clear q0 q1;refine(pS C D c' d' [(M:Int)] j _ aI Y h3.at h4.at).mono ?_;rintro e w2 ⟨g,G,rfl,hg,y7,ho,G4,hb⟩;have pw2:=aj.mk hb;clear hb;have tm:=G4.lt;obtain⟨q0,q1⟩:=bM ((kB.at (w':=w2)).alloc (.cells #[(g,1,1),.slice G j j.length] 28));go_wp2_with fail;clear q0 q1;have kO:=aA.new w2 28 #[(g,1,1),.slice G j j.length];have hoW:=G4.alloc (.cells #[(g,1,1),.slice G j j.length] 28);have pW:=aj.alloc w2 (.cells #[(g,1,1),.slice G j j.length] 28);generalize w2.alloc (.cells #[(g,1,1),.slice G j j.length] 28)=W at*;go_loopw [22] (λi wr=>∃k:Nat,k<=j.length/\i=.int .i64 k/\Aside G W wr/\Own wr G 65 (fd (g6 xs j u) j k)/\Below w.1.size w wr) (λi _=>j.length-(intOf i).toNat);case atStart=>exact⟨0,aR _,rfl,Aside.refl _ _,hoW,aO w W⟩
 case round=>
  obtain⟨k,hk,rfl,J,hO,P⟩:=hrel;have n1:w.1.size≠G:=Y;have n2:w.1.size+1+1≠G:=Y;have n3:w.1.size+1+1+1≠G:=Y;have n4:w2.1.size≠G:=Y;have Q:w.1.size<=G:=Y;have mR:=J.ak (kR.at (w':=W)) n3;have mO:=J.ak kO n4;by_cases bD:k<j.length
  .have mW:=J.ak (kW.at (w':=W)) n1;have mX:=J.ak (kX.at (w':=W)) n2;have r1:=J.fU h1 (h1.at (w':=W)) Q;have r2:=J.fU h2 (h2.at (w':=W)) Q;have r6:=J.fU h6 (h6.at (w':=W)) Q;obtain⟨b,off,y,rfl,hb4,Eu,L⟩:=(J.fU h4 (h4.at (w':=W)) Q).get bD;obtain⟨S,hS⟩:∃S,Z (k*N=S):=⟨_,U rfl⟩;have SK:k<M:=by rwa[<-HYL.o]
   have hrl:(rA N xs k).length=N:=HH oI.o SK;have CL:=U λ(w':ab) (h:Rd w' A [(M:Int),(N:Int)])=>xn A bx ox c d M N k S xs w' hd hM hN Ec oI Bm SK hS h;have CD:=U λ(w':ab) (ha:Rd w' (some ⟨bx,ox+S,none⟩) (rA N xs k)) (hb:Rd w' F u)=>NP (Wm (some ⟨bx,ox+S,none⟩) F N T (rA N xs k) u w' Y Y (U λz hz=>hx.o z (SG hz)) hv ha hb);rw[hrl]at CD;have CA:=U λ(w':ab)=>NO (mE (vB ((rA N xs k).zip u)) y w' (Bk _) (hy.o y (aK L.o)));have HG:Z (bB (vB ((rA N xs k).zip u)) y=qb xs j u k):=U (by
    unfold qb;rw[zi.o,a5,L.o];rfl)
   rw[HG.o]at CA;have WO:=U (mU (f:=g6 xs j u) (g7 xs j u k) L.o);have WP:=U (kK (f:=g6 xs j u) (g7 xs j u k) (Er xs j u k) L.o);clear hrl;go_wp2;have I:Z (∀w':World,Aside G (wr) w'->w'.cell? (w2.1.size,1)=some (.slice G j j.length)/\w'.cell? (w.1.size,0)=some (.slice A 2 c)/\w'.cell? (w.1.size,1)=some (.slice (some ⟨bx,ox,none⟩) xs d)/\w'.cell? (w.1.size+1+1,1)=some (.slice F u T)):=λw' O=>⟨(O.ak mO n4).cell 1,(O.ak mW n1).cell 0,(O.ak mW n1).cell 1,(O.ak mX n2).cell 1⟩;refine wp_region_held_drew (S:=λw'=>w'.cell? (w2.1.size,1)=some (.slice G j j.length)/\w'.cell? (w.1.size,0)=some (.slice A 2 c)/\w'.cell? (w.1.size,1)=some (.slice (some ⟨bx,ox,none⟩) xs d)/\w'.cell? (w.1.size+1+1,1)=some (.slice F u T)) ap (I.o _ (Aside.refl _ _).drew) (λhHeld=>?_);have l:Aside G (wr) (wr).drew:=(Aside.refl _ _).drew;have m:=(hO).drew;have r:=(P).drew;refine oA 0 ?_;refine oA 1 ?_;refine oA 2 ?_;refine oA 3 ?_;refine oA 4 ?_;refine oA 6 ?_;refine oA 7 ?_;refine oA 9 ?_;refine aJ 5 λK hK=>?_;go_simp;refine(CL.o _ (l.fU h1 r1 Q)).mono ?_;rintro e w3 ⟨rfl,hb⟩;replace l:=l.below hb;replace m:=m.keep hb;replace r:=dm r hb;refine hK.out _ _ (I.o _ l) (λhHeld=>?_);refine zFl ?_;have R:=(l.fU h2 r2 Q).row N k;rw[hS.o]at R;refine aJ 8 λK hK=>?_;go_simp;refine(CD.o _ R (l.fU h6 r6 Q)).mono ?_;rintro e w4 ⟨rfl,hb⟩;replace l:=l.below hb;replace m:=m.keep hb;replace r:=dm r hb;refine hK.out _ _ (I.o _ l) (λhHeld=>?_);refine zFl ?_;refine aJ 10 λK hK=>?_;go_simp;refine(CA.o _).mono ?_;rintro e w5 ⟨rfl,hb⟩;replace l:=l.below hb;replace m:=m.keep hb;replace r:=dm r hb;refine hK.out _ _ (I.o _ l) (λhHeld=>?_);refine zFl ?_;refine oA 11 ?_;have hc:=m.cell (WO.o);have hf:=m.frozen (k);refine aJ 12 λK hK=>?_;go_simp;replace l:=l.av (k) (qb xs j u k:Int);replace m:=m.av (k) (qb xs j u k);replace r:=r.setCell (p:=⟨_,k,none⟩) (Q) (qb xs j u k:Int);refine hK.out _ _ (I.o _ l) (λhHeld=>?_);refine zFl ?_;refine a8 ?_;go_wp2;rw[WP.o]at m;go_roundw;(case rel=>exact⟨k+1,Y,by go_num,J.trans l,m,r⟩);case measure=>exact ou
  rw[mo bD]at hO;have e:k=j.length:=Y;subst e;have HO:=U hO;have o1:=J.own (ho.at (w':=W)) (ho.aF (cs:=ints j) G4 ao);have⟨p0,p1⟩:=bM mO;have⟨q0,q1⟩:=bM mR;have f0:=mR.frozen 0;have f1:=mR.frozen 1;have l1:=o1.aF mR ao;have l2:=HO.o.aF mR ao;go_wp2;have k3:=mR.bP (g,1,1) (.slice G j j.length);have B3:=bA P (p:=w.1.size+1+1+1) Y (g,1,1) (.slice G j j.length);have o3:=o1.bH l1 (g,1,1) (.slice G j j.length);have o4:=HO.o.bH l2 (g,1,1) (.slice G j j.length);have⟨q0,q1⟩:=bM k3;exact aZ (v:=.tuple #[.agg #[(g,1,1),.slice G j j.length],an]) (by simp[results,results158,go_sem,q0,q1]) rfl<|fF.yes Y Y aI (by rw[g7];omega) o3 o4 B3 _ (by rw[g7];rfl)
end
end
variable{g:Nat}{T:TypeId}{v0 v1 v3 v4 v5:Value}{W w' wr:World}{zs:List Int}
def BE{w:ab}{b:Value}(h:aA w g T #[v0,v1,b,v3,v4,v5]):
  w.cell? (g,0)=some v0/\w.cell? (g,1)=some v1/\w.cell? (g,2)=some b/\w.cell? (g,3)=some v3/\w.cell? (g,4)=some v4/\w.cell? (g,5)=some v5:=
 ⟨h.cell 0,h.cell 1,h.cell 2,h.cell 3,h.cell 4,h.cell 5⟩
def World.yI(w:ab)(g:Nat)(v0 b e v3 v4 j:Value):World:=(((((w.setCell (g,0) v0).setCell (g,1) b).setCell (g,2) e).setCell (g,3) v3).setCell (g,4) v4).setCell (g,5) j
def aA.yI{w:ab}{a b c d e f:Value}(h:aA w g T #[a,b,c,d,e,f])(v0 j l v3 v4 m:Value):
  aA ((((((w.setCell (g,0) v0).setCell (g,1) j).setCell (g,2) l).setCell (g,3) v3).setCell (g,4) v4).setCell (g,5) m) g T #[v0,j,l,v3,v4,m]:=
 (((((h.av 0 v0).av 1 j).av 2 l).av 3 v3).av 4 v4).av 5 m
def mV{w:ab}{n p:Nat}(h:Below n w w')(hp:n<=p)(v0 b e v3 v4 j:Value):
  Below n w ((((((w'.setCell (p,0) v0).setCell (p,1) b).setCell (p,2) e).setCell (p,3) v3).setCell (p,4) v4).setCell (p,5) j):=
 (((((h.setCell (p:=⟨p,0,none⟩) hp v0).setCell (p:=⟨p,1,none⟩) hp b).setCell (p:=⟨p,2,none⟩) hp e).setCell (p:=⟨p,3,none⟩) hp v3).setCell (p:=⟨p,4,none⟩) hp v4).setCell (p:=⟨p,5,none⟩) hp j
def j2{w:ab}{p:Nat}(v0 b e v3 v4 j:Value):
  hU [p] w ((((((w.setCell (p,0) v0).setCell (p,1) b).setCell (p,2) e).setCell (p,3) v3).setCell (p,4) v4).setCell (p,5) j):=
 have m:p∈[p]:=aI
 ((((((hU.refl [p] w).av m 0 v0).av m 1 b).av m 2 e).av m 3 v3).av m 4 v4).av m 5 j
def hU.hI{p k:Nat}(h:hU [p] W wr)(hb:Own W k T zs)(b:k≠p):Own wr k T zs:=h.own hb (by simpa using b)
def BF(zs xs ts b e j ps gs:au):Bool:=eH zs xs ts b e j&&aw ps gs&&decide (ps=ts)
def abd(w:ab)(zs xs ts r u y:au)(E:Int)(e:Ending)(w':ab):Prop:=
 ∃A c B d z C D d' b j l m,e=.returned (.tuple #[.agg #[.slice A zs c,.slice B xs d,.slice z ts C,.slice D r d',.slice b u j,.slice l y m],E])/\
  aD w' w.1.size 3 A c zs/\aD w' w.1.size 65 B d xs/\aD w' w.1.size 3 z C ts/\aD w' w.1.size 65 D d' r/\aD w' w.1.size 3 b j u/\aD w' w.1.size 65 l m y/\Below w.1.size w w'
def zF1(h:Γ:=by refine aJ 3 λK hK=>?_;go_simp;refine(C2.o _ h7.at h8.at).mono ?_;rintro e wB ⟨c2,V,rfl,lc,ld,R,O,hb⟩;dsimp only;have pwB:=aj.mk hb;clear hb;refine hK.out _ _ (r.o _ (mD)) (λhHeld=>?_);refine zFl ?_;refine aJ 5 λK hK=>?_;go_simp;refine(C3.o _ h5.at h6.at).mono ?_;rintro e wC ⟨L,f2,rfl,le,lf,Q,of,hb⟩;dsimp only;have pwC:=aj.mk hb;clear hb;refine hK.out _ _ (r.o _ (mD)) (λhHeld=>?_);refine zFl ?_;refine oA 6 ?_;refine aJ 8 λK hK=>?_;rename World=>wN;obtain⟨q0,q1,q2,q3,q4,q5⟩:=BE (l.at (w':=wN));have y0:=(l.at (w':=wN)).frozen 0;have y1:=(l.at (w':=wN)).frozen 1;have y2:=(l.at (w':=wN)).frozen 2;have y3:=(l.at (w':=wN)).frozen 3;have y4:=(l.at (w':=wN)).frozen 4;have y5:=(l.at (w':=wN)).frozen 5;skip;go_simp;refine hK.out _ _ (r.o _ (mV (aO w3 wN) ai _ _ _ _ _ _)) (λhHeld=>?_);refine zFl ?_;have n1:=bN ob.lt (aQ (ai (w:=wA)) ld);have n2:=bN O.lt (aQ (ai (w:=wB)) lf);refine a8 ?_;go_wp2_with fail;go_meet;exact⟨_,a,b,c2,V,L,f2,rfl,(l.at (w':=wN)).yI _ _ _ _ _ _,(j2 _ _ _ _ _ _).hI (oa.at (w':=wN)) ((oa.at (w':=wN)).aF (l.at (w':=wN)) ao),(j2 _ _ _ _ _ _).hI (ob.at (w':=wN)) ((ob.at (w':=wN)).aF (l.at (w':=wN)) ao),(j2 _ _ _ _ _ _).hI (R.at (w':=wN)) ((R.at (w':=wN)).aF (l.at (w':=wN)) ao),(j2 _ _ _ _ _ _).hI (O.at (w':=wN)) ((O.at (w':=wN)).aF (l.at (w':=wN)) ao),(j2 _ _ _ _ _ _).hI (Q.at (w':=wN)) ((Q.at (w':=wN)).aF (l.at (w':=wN)) ao),(j2 _ _ _ _ _ _).hI (of.at (w':=wN)) ((of.at (w':=wN)).aF (l.at (w':=wN)) ao),aQ ai la,aQ ai lb,aQ ai lc,aQ ai ld,aQ ai le,aQ ai lf,ai,n1,n2,mV (aO w3 wN) ai _ _ _ _ _ _⟩):=h
def Ka(A B C D E F G H:bz)(c d c' d' e' f' g' h':Nat)(zs xs ts ys y m ps gs:au)(w:ab)(hd:xs.length<=d)(ud:y.length<=1000000)(h1:Rd w A zs)(h2:Rd w B xs)(h3:Rd w C ts)(h5:Rd w E y)(h6:Rd w F m)(h7:Rd w G ps)(h8:Rd w H gs)(hx:Z (∀z∈xs,bf z))(hv:Z (∀z∈m,bf z))(hg:Z (∀z∈gs,bf z))(hr:Z (BF zs xs ts ys y m ps gs=true)):
  () 105 #[.agg #[.slice A zs c,.slice B xs d],.agg #[.slice C ts c',.slice D ys d'],.agg #[.slice E y e',.slice F m f'],.agg #[.slice G ps g',.slice H gs h']] w (abd w zs (e8 gs m) ts gs y (lO m.length xs gs) 0):=by
 obtain⟨Q1,Q2,Q3⟩:Z (eH zs xs ts ys y m=true)/\Z (aw ps gs=true)/\Z (ps=ts):=by have:=hr.o;simp only[BF,bU,b9]at this;exact⟨this.1.1,this.1.2,this.2⟩
 obtain⟨M,N,rfl,rfl,jY,vi,oG,Ea,Ec,hM,hN,Bm,-,-,-⟩:=yH Q1.o;have oH:gs.length=M:=by have:=((aS _ _).1 Q2.o).2;rw[Q3.o]at this;simp[aB]at this;omega
 have q3:=Q3.o;subst q3;have oI:=U jY;have zi:=U oG;have WQ:=U oH;have hgM:gs.length<=1024:=Y;have hvN:m.length<=1024:=Y;have qc:0<m.length:=Y;have qU:0<xs.length:=by rw[jY];exact kY Ea Ec
 obtain⟨bx,ox,x0,rfl,-,-,-⟩:=h2.get (k:=0) qU;have T:Z ((e8 gs m).length=xs.length):=U (by rw[tF,oH,oG,jY]);clear jY vi oG oH Q3;have kW:=aA.new w 28 #[(A,2,c),.slice (some ⟨bx,ox,none⟩) xs d];have kB:=aA.eF (w.alloc (.cells #[(A,2,c),.slice (some ⟨bx,ox,none⟩) xs d] 28)) 28 #[(C,1,c'),.slice D ys d'] (n:=w.1.size+1) aI;have kX:=aA.eF ((w.alloc (.cells #[(A,2,c),.slice (some ⟨bx,ox,none⟩) xs d] 28)).alloc (.cells #[(C,1,c'),.slice D ys d'] 28)) 28 #[.slice E y e',.slice F m f'] (n:=w.1.size+1+1) aI;have kG:=aA.eF (((w.alloc (.cells #[(A,2,c),.slice (some ⟨bx,ox,none⟩) xs d] 28)).alloc (.cells #[(C,1,c'),.slice D ys d'] 28)).alloc (.cells #[.slice E y e',.slice F m f'] 28)) 28 #[(G,1,g'),.slice H gs h'] (n:=w.1.size+1+1+1) aI;have kR:=aA.eF ((((w.alloc (.cells #[(A,2,c),.slice (some ⟨bx,ox,none⟩) xs d] 28)).alloc (.cells #[(C,1,c'),.slice D ys d'] 28)).alloc (.cells #[.slice E y e',.slice F m f'] 28)).alloc (.cells #[(G,1,g'),.slice H gs h'] 28)) 201 #[(),(),(),(),(),()] (n:=w.1.size+1+1+1+1) aI;go_in;go_wp2_with fail;refine(J7 A (some ⟨bx,ox,none⟩) C D E F c d c' d' e' f' [(M:Int),(N:Int)] xs [(M:Int)] ys y m _ aI aI ud h1.at h3.at h5.at).mono ?_;rintro e w1 ⟨rfl,hb⟩;have xo:=aj.mk hb;clear hb;rw[Q1.o];obtain⟨p0,p1⟩:=bM (kG.at (w':=w1));go_wp2_with fail;refine(eO G H g' h' [(M:Int)] gs _ aI h7.at).mono ?_;rintro e w2 ⟨rfl,hb⟩;have pw2:=aj.mk hb;clear hb;rw[Q2.o];clear p0 p1;obtain⟨p0,p1⟩:=bM (kG.at (w':=w2));obtain⟨q0,q1⟩:=bM (kB.at (w':=w2));go_wp2_with fail;refine(rz G C g' c' [(M:Int)] [(M:Int)] _ aI aI h7.at h3.at).mono ?_;rintro e w3 ⟨rfl,hb⟩;have SL:=aj.mk hb;clear hb;rw[show decide (([(M:Int)]:au)=[(M:Int)])=true from ea rfl];clear p0 p1 q0 q1;have wZ:=(kR.at (w':=w3)).lt;go_upto_region 3 with fail
 go_cut [10] (λs10 wx=>∃b0 a b c d e f:Nat,s10=.pointer b0/\aA wx b0 201 #[(a,2,2),.slice b xs xs.length,(c,1,1),.slice d gs gs.length,.slice (some ⟨e,0,none⟩) y y.length,.slice f m m.length]/\
  Own wx a 3 [(M:Int),(N:Int)]/\Own wx b 65 xs/\Own wx c 3 [(M:Int)]/\Own wx d 65 gs/\Own wx e 3 y/\Own wx f 65 m/\w3.1.size<=a/\w3.1.size<=b/\w3.1.size<=c/\w3.1.size<=d/\w3.1.size<=e/\w3.1.size<=f/\w3.1.size<=b0/\b<d/\d<f/\Below w3.1.size w3 wx)
 case first=>
  have C1:=U λ(w':ab) (ha:Rd w' A [(M:Int),(N:Int)]) (hb:Rd w' (some ⟨bx,ox,none⟩) xs)=>pS A (some ⟨bx,ox,none⟩) c d [(M:Int),(N:Int)] xs w' aI Y ha hb;have C2:=U λ(w':ab) (ha:Rd w' G [(M:Int)]) (hb:Rd w' H gs)=>pS G H g' h' [(M:Int)] gs w' aI Y ha hb;have C3:=U λ(w':ab) (ha:Rd w' E y) (hb:Rd w' F m)=>pS E F e' f' y m w' Y Y ha hb;have r:Z (∀w':World,Below (w3).1.size (w3) w'->w'.cell? (w.1.size,0)=some (.slice A 2 c)/\w'.cell? (w.1.size,1)=some (.slice (some ⟨bx,ox,none⟩) xs d)/\w'.cell? (w.1.size+1+1,0)=some (.slice E y e')/\w'.cell? (w.1.size+1+1,1)=some (.slice F m f')/\w'.cell? (w.1.size+1+1+1,0)=some (.slice G 1 g')/\w'.cell? (w.1.size+1+1+1,1)=some (.slice H gs h')):=U (λw' I=>⟨(kW.at.keep I).cell 0,(kW.at.keep I).cell 1,(kX.at.keep I).cell 0,(kX.at.keep I).cell 1,(kG.at.keep I).cell 0,(kG.at.keep I).cell 1⟩);refine wp_region_held_drew (S:=λw'=>w'.cell? (w.1.size,0)=some (.slice A 2 c)/\w'.cell? (w.1.size,1)=some (.slice (some ⟨bx,ox,none⟩) xs d)/\w'.cell? (w.1.size+1+1,0)=some (.slice E y e')/\w'.cell? (w.1.size+1+1,1)=some (.slice F m f')/\w'.cell? (w.1.size+1+1+1,0)=some (.slice G 1 g')/\w'.cell? (w.1.size+1+1+1,1)=some (.slice H gs h')) ap (r.o _ (mD)) (λ_=>?_);refine Az (λwD pwD=>?_);have hHeld:=r.o wD (mD);refine oA 0 ?_;refine oA 2 ?_;refine oA 4 ?_;refine pP 1 7 (λK hK=>?_) (λK hK=>?_)
  .go_simp;refine(C1.o _ h1.at h2.at).mono ?_;rintro e wA ⟨a,b,rfl,la,lb,oa,ob,hb⟩;dsimp only;have pwA:=aj.mk hb;clear hb;refine hK.out _ _ (r.o _ (mD)) (λhHeld=>?_);refine zFl ?_;refine pP 3 7 (λK hK=>?_) (λK hK=>?_)
   .go_simp;refine(C2.o _ h7.at h8.at).mono ?_;rintro e wB ⟨c2,V,rfl,lc,ld,R,O,hb⟩;dsimp only;have pwB:=aj.mk hb;clear hb;refine hK.out _ _ (r.o _ (mD)) (λhHeld=>?_);refine zFl ?_;refine pP 5 7 (λK hK=>?_) (λK hK=>?_);(focus go_simp;refine(C3.o _ h5.at h6.at).mono ?_;rintro e wC ⟨L,f2,rfl,le,lf,Q,of,hb⟩;dsimp only;have pwC:=aj.mk hb;clear hb;refine hK.out _ _ (r.o _ (mD)) (λhHeld=>?_);refine zFl ?_;refine oA 6 ?_;refine aJ 7 λK hK=>?_;go_simp;refine q8 hK (λ_=>?_) (r.o _ (mD));refine nQ (λu1 t7 l zu1=>?_);have hHeld:=r.o u1 (mD));rotate_left;(focus go_simp;refine q8 hK (λ_=>?_) (r.o _ (mD));refine nQ (λu1 t7 l zu1=>?_);have hHeld:=r.o u1 (mD);refine aJ 5 λK hK=>?_;go_simp;refine(C3.o _ h5.at h6.at).mono ?_;rintro e wC ⟨L,f2,rfl,le,lf,Q,of,hb⟩;dsimp only;have pwC:=aj.mk hb;clear hb;refine hK.out _ _ (r.o _ (mD)) (λhHeld=>?_);refine zFl ?_;refine oA 6 ?_);all_goals refine aJ 8 λK hK=>?_;rename World=>wN;obtain⟨q0,q1,q2,q3,q4,q5⟩:=BE (l.at (w':=wN));have y0:=(l.at (w':=wN)).frozen 0;have y1:=(l.at (w':=wN)).frozen 1;have y2:=(l.at (w':=wN)).frozen 2;have y3:=(l.at (w':=wN)).frozen 3;have y4:=(l.at (w':=wN)).frozen 4;have y5:=(l.at (w':=wN)).frozen 5;skip;go_simp;refine hK.out _ _ (r.o _ (mV (aO w3 wN) ai _ _ _ _ _ _)) (λhHeld=>?_);refine zFl ?_;have n1:=bN ob.lt (aQ (ai (w:=wA)) ld);have n2:=bN O.lt (aQ (ai (w:=wB)) lf);refine a8 ?_;go_wp2_with fail;go_meet;exact⟨_,a,b,c2,V,L,f2,rfl,(l.at (w':=wN)).yI _ _ _ _ _ _,(j2 _ _ _ _ _ _).hI (oa.at (w':=wN)) ((oa.at (w':=wN)).aF (l.at (w':=wN)) ao),(j2 _ _ _ _ _ _).hI (ob.at (w':=wN)) ((ob.at (w':=wN)).aF (l.at (w':=wN)) ao),(j2 _ _ _ _ _ _).hI (R.at (w':=wN)) ((R.at (w':=wN)).aF (l.at (w':=wN)) ao),(j2 _ _ _ _ _ _).hI (O.at (w':=wN)) ((O.at (w':=wN)).aF (l.at (w':=wN)) ao),(j2 _ _ _ _ _ _).hI (Q.at (w':=wN)) ((Q.at (w':=wN)).aF (l.at (w':=wN)) ao),(j2 _ _ _ _ _ _).hI (of.at (w':=wN)) ((of.at (w':=wN)).aF (l.at (w':=wN)) ao),aQ ai la,aQ ai lb,aQ ai lc,aQ ai ld,aQ ai le,aQ ai lf,ai,n1,n2,mV (aO w3 wN) ai _ _ _ _ _ _⟩
   go_simp;refine q8 hK (λ_=>?_) (r.o _ (mD));refine nQ (λu1 t7 l zu1=>?_);have hHeld:=r.o u1 (mD);exact zF1
  go_simp;refine q8 hK (λ_=>?_) (r.o _ (mD));refine nQ (λu1 t7 l zu1=>?_);have hHeld:=r.o u1 (mD);refine aJ 1 λK hK=>?_;go_simp;refine(C1.o _ h1.at h2.at).mono ?_;rintro e wA ⟨a,b,rfl,la,lb,oa,ob,hb⟩;dsimp only;have pwA:=aj.mk hb;clear hb;refine hK.out _ _ (r.o _ (mD)) (λhHeld=>?_);refine zFl ?_;exact zF1
 case rest=>
  obtain⟨b0,a,b,c2,V,L,f,rfl,kS,oa,ob,R,O,Q,of,la,lb,lc,ld,le,lf,l0,n1,n2,hb⟩:=hcut;have pwc:=aj.mk hb;clear hb;have vj:=λty=>hZ (P:=prog) 26 65 ty underlying26 ap of qc m.length;have nbf:b≠f:=Y;have n0:f≠b0:=of.aF kS ao;obtain⟨q0,q1,q2,q3,q4,q5⟩:=BE kS;have WR:=(fE (bs:=[f]) (g:=f) aI (List.replicate m.length an) 0 (hU.refl [f] wc)).ak (kG.at (w':=wc)) ch;obtain⟨t0,t1⟩:=bM WR;go_wp2_with fail;clear t0 t1 q0 q1 q2 q3 q4 q5 vj;have u:=fE (bs:=[f]) (g:=f) aI (List.replicate m.length an) 0 (hU.refl [f] wc);have ofW:=of.clear;have aey:=dH (n:=w.1.size) (g:=f) Y (List.replicate m.length an) 0 (aO w wc);generalize wc.setCells f 0 (List.replicate m.length an)=W at*;(have hbF:∀g∈[b,f],w.1.size<=g:=by intro g hg;simp at hg;omega);(have SM:∀g∈[f],w.1.size<=g:=by intro g hg;simp at hg;omega);(have nf1:f≠a:=λe=>by subst e;exact(oa.aF (cs:=ints m) of ao) rfl);(have nf2:f≠c2:=λe=>by subst e;exact(R.aF (cs:=ints m) of ao) rfl);(have nf3:f≠L:=λe=>by subst e;exact(Q.aF (cs:=ints m) of ao) rfl);(have nb1:b≠a:=λe=>by subst e;exact(oa.aF (cs:=ints xs) ob ao) rfl);(have nb2:b≠c2:=λe=>by subst e;exact(R.aF (cs:=ints xs) ob ao) rfl);(have nb3:b≠L:=λe=>by subst e;exact(Q.aF (cs:=ints xs) ob ao) rfl);have nb0:b≠b0:=ob.aF kS ao;have oaW:=u.own oa (by simpa using nf1.symm);have obW:=u.own ob (by simpa using nbf);have ocW:=u.own R (by simpa using nf2.symm);have odW:=u.own O ch;have oeW:=u.own Q (by simpa using nf3.symm);have kSW:=u.ak kS (by simpa using n0.symm);have kWW:=u.ak (kW.at (w':=wc)) ch;have kXW:=u.ak (kX.at (w':=wc)) ch;have kGW:=u.ak (kG.at (w':=wc)) ch;have kRW:=u.ak (kR.at (w':=wc)) ch;have h1W:=u.fU h1 (h1.at (w':=wc)) SM;have h2W:=u.fU h2 (h2.at (w':=wc)) SM;have h6W:=u.fU h6 (h6.at (w':=wc)) SM;have h8W:=u.fU h8 (h8.at (w':=wc)) SM;rw[<-Es m.length xs gs]at ofW;go_loopw [49] (λi wr=>∃k:Nat,k<=gs.length/\i=.int .i64 k/\hU [b,f] W wr/\Own wr b 65 (fd (λp=>(e8 gs m).take p) xs (k*N))/\Own wr f 65 (fu m.length xs gs k 0)/\Below w.1.size w wr) (λi _=>gs.length-(intOf i).toNat);(case atStart=>exact⟨0,aR _,rfl,hU.refl _ _,by simpa[fd]using obW,ofW,aey⟩);case round=>
   obtain⟨k,hk,rfl,hO,o1,o2,ab8⟩:=hrel;have kSr:=hO.ak kSW ch;have J:=hO.ak kRW ch;by_cases bD:k<gs.length
   .obtain⟨S,hS⟩:∃S,Z (k*N=S):=⟨_,U rfl⟩;rw[hS.o]at o1;(have SK:k<M:=by rwa[<-WQ.o]);(have agm:S+N<=xs.length:=by rw[oI.o,<-hS.o,<-f7];exact cV _ SK);have WS:=hO.ak kWW ch;have kXr:=hO.ak kXW ch;have r1:=hO.fU h1 h1W hbF;have oar:=hO.own oaW ch;obtain⟨b8,o8,g,rfl,hb8,SN,hgk⟩:=(hO.fU h8 h8W hbF).get bD;have SO:=hg.o g (aK hgk.o);have CL1:=U λ(w':ab) (h:Rd w' A [(M:Int),(N:Int)])=>xn A bx ox c d M N k S xs w' hd hM hN Ec oI Bm SK hS h;have CL2:=U λ(w':ab) (h:Rd w' a [(M:Int),(N:Int)])=>xn a b 0 2 xs.length M N k S xs w' (al _) hM hN Ec oI Bm SK hS h;rw[cQ]at CL2;go_wp2_with fail;have r:Z (∀w':World,Below (wr).1.size (wr) w'->w'.cell? (w.1.size,0)=some (.slice A 2 c)/\w'.cell? (w.1.size,1)=some (.slice (some ⟨bx,ox,none⟩) xs d)/\w'.cell? (b0,0)=some (.slice a 2 2)/\w'.cell? (b0,1)=some (.slice b xs xs.length)):=λw' I=>⟨(WS.keep I).cell 0,(WS.keep I).cell 1,(kSr.keep I).cell 0,(kSr.keep I).cell 1⟩;refine wp_region_held_drew (S:=λw'=>w'.cell? (w.1.size,0)=some (.slice A 2 c)/\w'.cell? (w.1.size,1)=some (.slice (some ⟨bx,ox,none⟩) xs d)/\w'.cell? (b0,0)=some (.slice a 2 2)/\w'.cell? (b0,1)=some (.slice b xs xs.length)) ap (r.o _ (mD)) (λ_=>?_);refine Az (λwD pwD=>?_);have hHeld:=r.o wD (mD);refine oA 0 ?_;refine oA 1 ?_;refine oA 3 ?_;refine oA 4 ?_;refine oA 5 ?_;refine aJ 2 λK hK=>?_;go_simp;refine(CL1.o _ r1.at).mono ?_;rintro e wA ⟨rfl,hb⟩;dsimp only;have pwA:=aj.mk hb;clear hb;refine hK.out _ _ (r.o _ (mD)) (λhHeld=>?_);refine zFl ?_;refine aJ 6 λK hK=>?_;go_simp;refine(CL2.o _ oar.rd.at).mono ?_;rintro e wB ⟨rfl,hb⟩;dsimp only;have pwB:=aj.mk hb;clear hb;refine hK.out _ _ (r.o _ (mD)) (λhHeld=>?_);refine zFl ?_;refine oA 7 ?_;refine oA 8 ?_;refine a8 ?_;clear hHeld r;have o1B:=o1.at (w':=wB);have o2B:=o2.at (w':=wB);have hOB:=hO.below (aO wr wB);have aez:=dm ab8 (aO wr wB);obtain⟨p0,p1⟩:=bM (kXr.at (w':=wB));go_wp2_with fail;clear p0 p1;go_loopw [64] (λi wq=>∃j:Nat,j<=m.length/\i=.int .i64 j/\hU [b,f] W wq/\Own wq b 65 (fd (λp=>(e8 gs m).take p) xs (S+j))/\Own wq f 65 (fu m.length xs gs k j)/\Below w.1.size w wq) (λi _=>m.length-(intOf i).toNat);(case atStart=>exact⟨0,aR _,rfl,hOB,o1B,o2B,aez⟩);case round=>
     obtain⟨j,hj,rfl,hOj,m1,m2,hbj⟩:=hrel;by_cases hlj:j<m.length
     .obtain⟨b6,o6,v,rfl,hb6,hc6,hvj⟩:=(hOj.fU h6 h6W hbF).get hlj;have WT:=hv.o v (aK hvj.o);(have hjN:j<N:=by rwa[<-zi.o]);obtain⟨x,X⟩:∃x,Z (xs[S+j]?=some x):=⟨_,U (bk Y)⟩;have hxi:=hx.o x (aK X.o);have HXK:Z (xs[k*m.length+j]?=some x):=U (by rw[zi.o,hS.o];exact X.o);have zj:Z (((e8 gs m).take (S+j)).length=S+j):=U (by rw[cr,T.o];omega);have HBA:Z ((e8 gs m).take (S+j+1)=(e8 gs m).take (S+j)++[bw g v]):=Et (by rw[<-hS.o,<-zi.o];exact SH hgk.o hvj.o);have u1:=m1.cell (mU (f:=λp=>(e8 gs m).take p) zj X.o);have u2:=m1.frozen (S+j);have hO2:=hOj.av (g:=b) aI (S+j) (bw g v:Int);have M1:=U (m1.av (S+j) (bw g v));rw[kK (f:=λp=>(e8 gs m).take p) zj.o HBA.o X.o]at M1;have M2:=m2.aV (p:=⟨b,S+j,none⟩) (by exact nbf.symm) (bw g v:Int);have B2:=hbj.setCell (p:=⟨b,S+j,none⟩) (by show w.1.size<=b;omega) (bw g v:Int);have t5:=(hO2.ak kSW ch).cell 5;have u3:=M2.cell (J9 (k:=k) hlj);have u4:=M2.frozen j;(have u5:(wr.setCell (b,S+j) (bw g v:Int)).cell? (bx,ox+S+j)=some (.int .i64 x):=by rw[pG];exact(hO2.fU h2 h2W hbF).all X.o);have CM:=U (rr (rc x g (wr.setCell (b,S+j) (bw g v:Int)).drew hxi SO));have CA:=U (rr (mE (lU m.length xs gs j k) (bw x g) (wr.setCell (b,S+j) (bw g v:Int)).drew (J8 _ _ _ _ _) (jU hxi SO)));have HXS:=U (HI hlj HXK hgk.o);have M3:=M1.o.aV (p:=⟨f,j,none⟩) (by exact nbf) (bB (lU m.length xs gs j k) (bw x g):Int);have M4:=M2.av j (bB (lU m.length xs gs j k) (bw x g));rw[HXS.o]at M4;have hO4:=hO2.av (g:=f) aI j (bB (lU m.length xs gs j k) (bw x g):Int);have B4:=B2.setCell (p:=⟨f,j,none⟩) (by show w.1.size<=f;omega) (bB (lU m.length xs gs j k) (bw x g):Int);go_wp2_with fail;refine(rc g v wr SO WT).mono ?_;rintro e w' ⟨rfl,rfl⟩;go_upto_region 13 with fail;clear u1 u2;generalize wr.setCell (b,S+j) (bw g v:Int)=wz at*;refine wp_region_still_tail 17 ap ap ?_;change wpStill _ _ (wz).drew _ _ _;simp only[f6,d8,iH,fl];(iterate 15 still_step);still_call CM;still_call CA;(repeat still_step);refine gH ?_;go_wp2_with fail;go_roundw;(case rel=>exact⟨j+1,Y,by go_num,hO4.drew,M3.drew,M4.drew,B4.drew⟩);case measure=>exact ou
     have e:j=m.length:=Y;subst e;rw[HJ]at m2;(have eS:S+m.length=(k+1)*N:=by rw[zi.o,f7,hS.o]);rw[eS]at m1;clear eS;go_wp2_with fail;go_roundw;(case rel=>exact⟨k+1,Y,by go_num,hOj,m1,m2,hbj⟩);case measure=>exact ou
   have e:k=gs.length:=Y;subst e;rw[HK]at o2;(have eW:fd (λp=>(e8 gs m).take p) xs (gs.length*N)=e8 gs m:=by rw[WQ.o,<-oI.o,fd,uO,ev,<-T.o,ek]);rw[eW]at o1;have HLX:Z ((lO m.length xs gs).length=m.length):=U (by simp[lO]);have oar:=hO.own oaW ch;have ocr:=hO.own ocW ch;have odr:=hO.own odW ch;have oer:=hO.own oeW ch;clear eW;obtain⟨q0,q1,q2,q3,q4,q5⟩:=BE kSr;obtain⟨t0,t1,t2,t3,t4,t5⟩:=BE J;have y0:=J.frozen 0;have y1:=J.frozen 1;have y2:=J.frozen 2;have y3:=J.frozen 3;have y4:=J.frozen 4;have y5:=J.frozen 5;go_wp2_with fail;have k3:=J.yI (a,2,2) (.slice b xs xs.length) (c2,1,1) (.slice V gs gs.length) (.slice L y y.length) (.slice f m m.length);have B3:=mV ab8 (p:=w.1.size+1+1+1+1) Y (a,2,2) (.slice b xs xs.length) (c2,1,1) (.slice V gs gs.length) (.slice L y y.length) (.slice f m m.length);have X3:=j2 (w:=wr) (p:=w.1.size+1+1+1+1) (a,2,2) (.slice b xs xs.length) (c2,1,1) (.slice V gs gs.length) (.slice L y y.length) (.slice f m m.length);clear q0 q1 q2 q3 q4 q5 t0 t1 t2 t3 t4 t5;obtain⟨q0,q1,q2,q3,q4,q5⟩:=BE k3;refine aZ (v:=.tuple #[.agg #[(a,2,2),.slice b xs xs.length,(c2,1,1),.slice V gs gs.length,.slice L y y.length,.slice f m m.length],an]) (by simp[results,results105,go_sem,q0,q1,q2,q3,q4,q5]) rfl<|⟨some ⟨a,0,none⟩,2,some ⟨b,0,none⟩,xs.length,some ⟨c2,0,none⟩,1,some ⟨V,0,none⟩,gs.length,some ⟨L,0,none⟩,y.length,some ⟨f,0,none⟩,m.length,by rw[T.o,HLX.o];rfl,aD.gJ (X3.hI oar Y) Y aI,?_,aD.gJ (X3.hI ocr Y) Y aI,aD.gJ (X3.hI odr Y) Y Y,aD.gJ (X3.hI oer Y) Y Y,?_,B3⟩;have:=aD.gJ (B:=w.1.size) (X3.hI o1 Y) Y (by rw[T.o];omega);rw[T.o]at this;exact this;have:=aD.gJ (B:=w.1.size) (X3.hI o2 Y) Y (by rw[HLX.o];omega);rw[HLX.o]at this;exact this
variable{A B:Option Addr}{c d:Nat}

variable{E S y1:Int}
@[grind cases]structure mW(y1 y0 u d q r:Int):Prop where
 sum:q*y1+r=u
 low:(u*4294967296+d)/(y1*4294967296+y0)<=q
 r0:0<=r
 q0:0<=q
 high:q<=4294967298
variable{y0 u d q r:Int}
def vK(b:2147483648<=y1)(e:0<=y0)(hu:u<y1*4294967296+y0)(hd:d<4294967296):
  (u*4294967296+d)/(y1*4294967296+y0)<4294967296:=by
 apply uL Y;omega
def qd(z:2147483648<=y1)(B:y1<4294967296)(l:0<=y0)(C:y0<4294967296)(j:0<=u)(hu:u<y1*4294967296+y0)(m:0<=d)(hd:d<4294967296):
  mW y1 y0 u d (u/y1) (u-u/y1*y1):=by
 have e:=aaH u y1;have r0:=zK u (b:=y1) Y;have r1:=zF u (b:=y1) Y;have q0:0<=u/y1:=kU j Y;generalize hq:u/y1=q at*;generalize u%y1=r at*;have D:q*y1=y1*q:=mw _ _;refine⟨Y,?_,Y,q0,?_⟩;apply Int.le_of_lt_add_one;apply uL Y;have E:(q+1)*(y1*4294967296+y0)=(y1*q)*4294967296+y1*4294967296+(q+1)*y0:=by rw[P0,<-mr,l0,uX,mw q y1,l0]
 have F:0<=(q+1)*y0:=jO Y l;omega;by_cases y:q<=4294967298;exact y;exfalso;have:4294967299*y1<=q*y1:=zC Y Y;omega
theorem pg(h:mW y1 y0 u d q r)(b:2147483648<=y1)(e:0<=y0)(ht:q*y0<=4294967296*r+d):q=(u*4294967296+d)/(y1*4294967296+y0):=by
 refine Int.le_antisymm ?_ h.low;apply(zM Y).2;grind
def jx(h:mW y1 y0 u d q r)(b:2147483648<=y1)(j:0<=y0)(hu:u<y1*4294967296+y0)(hd:d<4294967296)(ht:4294967296<=q\/4294967296*r+d<q*y0):
  (u*4294967296+d)/(y1*4294967296+y0)<=q-1:=by
 have l:=vK b j hu hd;rcases ht with ht|ht;omega;have:(u*4294967296+d)/(y1*4294967296+y0)<q:=by apply uL Y;(have e:q*(y1*4294967296+y0)=q*y1*4294967296+q*y0:=by rw[P0,<-mr]);have:=h.sum;omega
 omega
theorem jy(h:mW y1 y0 u d q r)(e:2147483648<=y1)(b:0<=(u*4294967296+d)/(y1*4294967296+y0))(hm:(u*4294967296+d)/(y1*4294967296+y0)<=q-1):mW y1 y0 u d (q-1) (r+y1):=by
 refine⟨?_,hm,?_,Y,?_⟩;grind;grind;grind
def jz(h:mW y1 y0 u d q r)(e:2147483648<=y1)(b:0<=y0)(l:y0<4294967296)(j:0<=d)(hq:q<=4294967297)(hr:4294967296<=r):q=(u*4294967296+d)/(y1*4294967296+y0):=by
 apply pg h e b;have:q*y0<=4294967297*4294967295:=l2 hq Y b Y;omega
theorem WU{hi lo:Int}(e:0<z)(hE:0<E)(b:z*E=18446744073709551616)(j:0<=hi)(u:hi<y)(l:0<=lo)(B:lo<=18446744073709551615)(C:y*z<=18446744073709551615):
  0<=hi*z/\hi*z<=18446744073709551615/\0<=lo/E/\lo/E<z/\0<=hi*z+lo/E/\hi*z+lo/E<y*z/\
   (hi*18446744073709551616+lo)*z=(hi*z+lo/E)*18446744073709551616+lo*z%18446744073709551616:=by
 have m:0<=hi*z:=jO j Y;have r:(hi+1)*z<=y*z:=zC Y Y;rw[l0,uX]at r;have a3:0<=lo/E:=kU l Y;have a4:lo/E<z:=by apply uL hE;omega
 refine⟨m,Y,a3,a4,Y,Y,?_⟩;have F:lo*z/18446744073709551616=lo/E:=by rw[<-b,mw z E,PM _ _ e]
 grind
def NQ{N L q0 v b:Int}(m:0<z)(r:0<y)(hN:N*z=E*18446744073709551616+L)
  (F:S*(y*z)+v=E*4294967296+L/4294967296) (G:q0*(y*z)+b=v*4294967296+L%4294967296) (j:0<=b) (l:b<y*z):
  S*4294967296+q0=N/y/\b/z=N%y:=by
 have e:N*z=(S*4294967296+q0)*(y*z)+b:=by (have I:(S*4294967296+q0)*(y*z)=S*(y*z)*4294967296+q0*(y*z):=by rw[l0,mr,mw 4294967296 (y*z),<-mr]);have:L=L/4294967296*4294967296+L%4294967296:=Y;omega
 generalize S*4294967296+q0=q at*;have B:0<y*z:=Int.mul_pos r m;have hq:N*z/(y*z)=q:=by rw[e,P8,aaD _ _ Y,PH j l,aaC]
 rw[PM _ _ m]at hq;refine⟨hq.symm,?_⟩;have C:b=(N-q*y)*z:=by rw[aaM,mr];omega
 rw[C,Int.mul_ediv_cancel _ Y,GY,hq,mw]
def fj{T MJ q:Int}(hq:q=T/MJ)(j:0<MJ):0<=T-q*MJ/\T-q*MJ<MJ:=by
 subst hq;have e:=GY T MJ;rw[mw]at e;have a:=zK T (b:=MJ) Y;have b:=zF T j;omega
def qe{u:Int}(j:0<=u)(l:1<=y1):0<=u/y1*y1/\u/y1*y1<=u/\u-u/y1*y1<y1:=by
 have e:=GY u y1;rw[mw]at e;have a:=zK u (b:=y1) Y;have b:=zF u (b:=y1) Y;exact⟨jO (kU j Y) Y,Y,Y⟩
def NR(s:Nat)(h:s<=63):(2:Int)^s*2^(64-s)=18446744073709551616:=by
 rw[<-P9,show s+(64-s)=64 from Y];rfl
def Kb(a b:Int)(s:Nat)(l:0<=a)(r:a*2^s<=18446744073709551615)(u:0<=b)(y:b<2^s)(B:b<=18446744073709551615):bits .or .u64 (a*2^s) b=a*2^s+b:=by
 obtain⟨n,rfl⟩:=bO l;obtain⟨m,rfl⟩:=bO u;have j:(n:Int)*2^s=((n*2^s:Nat):Int):=by rw[cH,PO];rfl
 have z:((2:Int)^s)=((2^s:Nat):Int):=by rw[PO];rfl
 rw[j]at r;rw[z]at y;rw[j,Qd (n*2^s) m Y Y];have e:n*2^s|||m=n*2^s+m:=by have:=PG (i:=s) (b:=m) Y n;rw[PL];omega
 rw[e];omega
def zFe(h:Γ:=by rw[C.o];exact qc):=h
def zFg(h:Γ:=by have:=z.o;omega):=h
def zFh(h:Γ:=by rw[<-C.o];exact z):=h
def zF0(h:Γ:=by
 have HV:Z (R*MJ+(u*4294967296+d1-R*MJ)=u*4294967296+d1):=U Y;have E21:IntKind.u64.wrap (IntKind.u64.wrap (IntKind.u64.wrap (u*4294967296)+d1)-IntKind.u64.wrap (R*MJ))=u*4294967296+d1-R*MJ:=by rw[bE,bE,bE,bE];omega
 have acd:=WX.o;generalize hve:u*4294967296+d1-R*MJ=v at*;have⟨g1,g2,g3⟩:=qe (u:=v) (y1:=y1) Kd Y;have zk:=qd m QE l F Kd zFe oM G;have DL2:=vK (y1:=y1) (y0:=y0) (u:=v) (d:=d0) m l zFe G;have HM:=zk.high;have E:=zk.q0;generalize xa:v/y1=p at*;generalize R5:v-p*y1=t at*;have Fl:=U zk;go_wp2;go_loop [18,16] (λa b=>∃p t:Int,a=.int .u64 p/\b=.int .u64 t/\mW y1 y0 v d0 p t/\t<4294967296) (λa _=>(intOf a).toNat);exact⟨p,t,rfl,rfl,Fl,Y⟩;obtain⟨p,t,rfl,rfl,D,ht4⟩:=hrel;have HM:=D.high;have E:=D.q0;have hr0:=D.r0;have I:0<=(v*4294967296+d0)/(y1*4294967296+y0):=kU Y Y;have lD:Z (v<y1*4294967296+y0):=U zFe;have J:=U D;by_cases BG:4294967296<=p
 .have j:=jx J m l lD G (.inl BG);have K:=U (jy J m I j);have NS:1<=p:=Y;by_cases B:4294967296<=t+y1
  .have z:=U (jz K m l F oM Y B);have⟨M,O⟩:=fj (T:=v*4294967296+d0) (MJ:=MJ) (q:=(p-1)) zFh Y;have P:Z ((p-1)<4294967296):=U zFg;(have S:0<=(p-1):=by have:=z.o;omega);generalize V:(p-1)=p1 at*;have HX:Z (p1*MJ+(v*4294967296+d0-p1*MJ)=v*4294967296+d0):=U Y;(have Kh:IntKind.u64.wrap (IntKind.u64.wrap (IntKind.u64.wrap (v*4294967296)+d0)-IntKind.u64.wrap (p1*MJ))=v*4294967296+d0-p1*MJ:=by rw[bE,bE,bE,bE];omega);have X:=P.o;generalize BH:v*4294967296+d0-p1*MJ=x at*;have FF:=U (HL.o R p1 v x HV HX M O);go_wp2;go_ret2;exact⟨by rw[ti.o,<-FF.o.1,<-FF.o.2];rfl,aY _ _⟩
  go_wp2;go_round;exact⟨p-1,t+y1,rfl,rfl,K,Y⟩;simp[intOf];omega
 have WY:0<=p*y0:=jO E l;have WZ:p*y0<=4294967295*4294967295:=l2 Y Y l Y;by_cases Q:4294967296*t+d0<p*y0
 .have j:=jx J m l lD G (.inr Q);have K:=U (jy J m I j);have NS:1<=p:=Y;by_cases B:4294967296<=t+y1
  .have z:=U (jz K m l F oM Y B);have⟨M,O⟩:=fj (T:=v*4294967296+d0) (MJ:=MJ) (q:=(p-1)) zFh Y;have P:Z ((p-1)<4294967296):=U zFg;(have S:0<=(p-1):=by have:=z.o;omega);generalize V:(p-1)=p1 at*;have HX:Z (p1*MJ+(v*4294967296+d0-p1*MJ)=v*4294967296+d0):=U Y;(have Kh:IntKind.u64.wrap (IntKind.u64.wrap (IntKind.u64.wrap (v*4294967296)+d0)-IntKind.u64.wrap (p1*MJ))=v*4294967296+d0-p1*MJ:=by rw[bE,bE,bE,bE];omega);have X:=P.o;generalize BH:v*4294967296+d0-p1*MJ=x at*;have FF:=U (HL.o R p1 v x HV HX M O);go_wp2;go_ret2;exact⟨by rw[ti.o,<-FF.o.1,<-FF.o.2];rfl,aY _ _⟩
  go_wp2;go_round;exact⟨p-1,t+y1,rfl,rfl,K,Y⟩;simp[intOf];omega
 have z:=U (pg J m l Y);have⟨M,O⟩:=fj (T:=v*4294967296+d0) (MJ:=MJ) (q:=p) zFh Y;have P:Z (p<4294967296):=U zFg;have S:0<=p:=by have:=z.o;omega
 generalize V:p=p1 at*;have HX:Z (p1*MJ+(v*4294967296+d0-p1*MJ)=v*4294967296+d0):=U Y;have Kh:IntKind.u64.wrap (IntKind.u64.wrap (IntKind.u64.wrap (v*4294967296)+d0)-IntKind.u64.wrap (p1*MJ))=v*4294967296+d0-p1*MJ:=by rw[bE,bE,bE,bE];omega
 have X:=P.o;generalize BH:v*4294967296+d0-p1*MJ=x at*;have FF:=U (HL.o R p1 v x HV HX M O);go_wp2;go_ret2;exact⟨by rw[ti.o,<-FF.o.1,<-FF.o.2];rfl,aY _ _⟩):=h
def zF2(h:Γ:=by
 have K:=U (jy J.o m I j);have NS:1<=p:=Y;clear j;by_cases B:4294967296<=t+y1
 .have z:=U (jz K.o m l F oM Y B);obtain⟨M,O⟩:=fj (T:=v*4294967296+d0) (MJ:=MJ) (q:=(p-1)) (by rw[<-C.o];exact z.o) Y;have P:Z ((p-1)<4294967296):=U zFg;(have S:0<=(p-1):=by have:=z.o;omega);generalize V:(p-1)=p1 at*;have HX:Z (p1*MJ+(v*4294967296+d0-p1*MJ)=v*4294967296+d0):=U Y;(have Kh:IntKind.u64.wrap (IntKind.u64.wrap (IntKind.u64.wrap (v*4294967296)+d0)-IntKind.u64.wrap (p1*MJ))=v*4294967296+d0-p1*MJ:=by rw[bE,bE,bE,bE];omega);have X:=P.o;generalize BH:v*4294967296+d0-p1*MJ=x at*;clear BH;have FF:=U (HL.o R p1 v x HV.o HX.o M O);go_wp2_with fail;go_ret2;exact⟨by rw[ti.o,<-FF.o.1,<-FF.o.2];rfl,aY _ _⟩
 go_wp2_with fail;go_round;case rel=>exact⟨p-1,t+y1,rfl,rfl,K.o,Y⟩
 case measure=>exact ou):=h
def zF6(h:Γ:=by simp[intOf];omega):=h
def zFd(h:Γ:=by go_wp2;go_round;exact⟨q-1,r+y1,rfl,rfl,HN,Y⟩;exact zF6):=h
def zFi(h:Γ:=by rw[C.o];exact m6):=h
def zFj(h:Γ:=by have:=HQ.o;omega):=h
def Kc(hi lo y:Int)(w:ab)(h0:0<=hi)(h1:hi<y)(h2:y<=18446744073709551615)(h3:0<=lo)(h4:lo<=18446744073709551615):
  () 222 #[.int .u64 hi,.int .u64 lo,.int .u64 y] w λe w'=>e=.returned (.tuple #[.int .u64 ((hi*18446744073709551616+lo)/y),.int .u64 ((hi*18446744073709551616+lo)%y)])/\Below w.1.size w w':=by
 by_cases hz:hi=0
 .subst hz;go_in;go_wp2;go_big_quiet (fail);go_wp2_with fail;go_ret2;exact⟨aI,below_drewN (aY _ _) _⟩
 have gu:(hi==0)=false:=by simpa using hz
 have jR:1<=hi:=Y;clear hz;go_in;go_wp2_with fail;refine(MK y w Y h2).mono ?_;rintro e w1 ⟨s,rfl,rfl,s1,s2,s3⟩;have hD:0<(2:Int)^s:=GF ao;have hE:0<(2:Int)^(64-s):=GF ao;obtain⟨m1,m2,m3,m4,m5,m6,m7⟩:=WU hD hE (NR s s1) h0 h1 h3 h4 s3;have eO:=Kb hi (lo/2^(64-s)) s h0 m2 m3 m4 Y;have eL:IntKind.u64.wrap (lo*2^s)=lo*2^s%18446744073709551616:=bE _;have hL0:0<=lo*2^s%18446744073709551616:=Y;have hL1:lo*2^s%18446744073709551616<=18446744073709551615:=Y;generalize SP:hi*18446744073709551616+lo=N at*;generalize Sj:lo*2^s%18446744073709551616=L at*;generalize hUU:hi*2^s+lo/2^(64-s)=u at*
 have HL:Z (∀R q0 v v2:Int,R*(y*2^s)+v=u*4294967296+L/4294967296->q0*(y*2^s)+v2=v*4294967296+L%4294967296->0<=v2->v2<y*2^s->R*4294967296+q0=N/y/\v2/2^s=N%y):=
  U (λR q0 v v2 a b c d=>NQ hD Y m7 a b c d)
 have eA:=sJ (y*2^s) Y s3;have eB:=sJ L hL0 hL1;have l:0<=y*2^s%4294967296:=Y;have F:y*2^s%4294967296<4294967296:=Y;have m:2147483648<=y*2^s/4294967296:=Y;have QE:y*2^s/4294967296<4294967296:=Y;have C:Z (y*2^s/4294967296*4294967296+y*2^s%4294967296=y*2^s):=U Y;have Ev:0<=L/4294967296:=Y;have QF:L/4294967296<4294967296:=Y;have oM:0<=L%4294967296:=Y;have G:L%4294967296<4294967296:=Y;have ti:=U SP;clear m7 SP Sj hUU;generalize hYe:y*2^s=MJ at*;generalize agn:MJ/4294967296=y1 at*;generalize aeA:MJ%4294967296=y0 at*;generalize ago:L/4294967296=d1 at*;generalize aeB:L%4294967296=d0 at*;clear aeA aeB;have DS1:=qd m QE l F m5 zFi Ev QF;have DL1:=vK (y1:=y1) (y0:=y0) (u:=u) (d:=d1) m l zFi QF;obtain⟨g1,g2,g3⟩:=qe (u:=u) (y1:=y1) m5 Y;have HM:=DS1.high;have E:=DS1.q0;generalize hq:u/y1=q at*;generalize hre:u-q*y1=r at*;have ab9:=U DS1;clear DS1;go_wp2_with fail;go_loop [15,16] (λa b=>∃q r:Int,a=.int .u64 q/\b=.int .u64 r/\mW y1 y0 u d1 q r/\r<4294967296) (λa _=>(intOf a).toNat);case atStart=>exact⟨q,r,by rw[hq],rfl,ab9.o,Y⟩
 case round=>
  clear hq hre HM E ab9 g1 g2 g3;obtain⟨q,r,rfl,rfl,WV,hr4⟩:=hrel;have HM:=WV.high;have E:=WV.q0;have hr0:=WV.r0;have WW:0<=(u*4294967296+d1)/(y1*4294967296+y0):=kU Y Y;have HU:Z (u<y1*4294967296+y0):=U zFi;have HD:=U WV;clear WV;by_cases E0:4294967296<=q
  .have j:=jx HD.o m l HU.o QF (.inl E0);have HN:=U (jy HD.o m WW j);have NS:1<=q:=Y;clear j;by_cases B:4294967296<=r+y1
   .have HQ:=U (jz HN.o m l F Ev Y B);obtain⟨Kd,qc⟩:=fj (T:=u*4294967296+d1) (MJ:=MJ) (q:=(q-1)) (by rw[<-C.o];exact HQ.o) Y;have WX:Z ((q-1)<4294967296):=U zFj;(have aca:0<=(q-1):=by have:=HQ.o;omega);generalize acb:(q-1)=R at*;have HV:Z (R*MJ+(u*4294967296+d1-R*MJ)=u*4294967296+d1):=U Y;(have E21:IntKind.u64.wrap (IntKind.u64.wrap (IntKind.u64.wrap (u*4294967296)+d1)-IntKind.u64.wrap (R*MJ))=u*4294967296+d1-R*MJ:=by rw[bE,bE,bE,bE];omega);have acd:=WX.o;generalize hve:u*4294967296+d1-R*MJ=v at*;clear hve;obtain⟨g1,g2,g3⟩:=qe (u:=v) (y1:=y1) Kd Y;have zk:=qd m QE l F Kd zFe oM G;have DL2:=vK (y1:=y1) (y0:=y0) (u:=v) (d:=d0) m l zFe G;have HM:=zk.high;have E:=zk.q0;generalize xa:v/y1=p at*;generalize R5:v-p*y1=t at*;have Fl:=U zk;clear zk;go_wp2_with fail;go_loop [18,16] (λa b=>∃p t:Int,a=.int .u64 p/\b=.int .u64 t/\mW y1 y0 v d0 p t/\t<4294967296) (λa _=>(intOf a).toNat);(case atStart=>exact⟨p,t,rfl,rfl,Fl.o,Y⟩);case round=>clear xa R5 HM E Fl g1 g2 g3;obtain⟨p,t,rfl,rfl,D,ht4⟩:=hrel;have HM:=D.high;have E:=D.q0;have hr0:=D.r0;have I:0<=(v*4294967296+d0)/(y1*4294967296+y0):=kU Y Y;have lD:Z (v<y1*4294967296+y0):=U zFe;have J:=U D;clear D;by_cases BG:4294967296<=p;have j:=jx J.o m l lD.o G (.inl BG);exact zF2;have WY:0<=p*y0:=jO E l;have WZ:p*y0<=4294967295*4294967295:=l2 Y Y l Y;by_cases Q:4294967296*t+d0<p*y0;have j:=jx J.o m l lD.o G (.inr Q);exact zF2;have z:=U (pg J.o m l Y);obtain⟨M,O⟩:=fj (T:=v*4294967296+d0) (MJ:=MJ) (q:=p) (by rw[<-C.o];exact z.o) Y;have P:Z (p<4294967296):=U zFg;(have S:0<=p:=by have:=z.o;omega);generalize V:p=p1 at*;have HX:Z (p1*MJ+(v*4294967296+d0-p1*MJ)=v*4294967296+d0):=U Y;(have Kh:IntKind.u64.wrap (IntKind.u64.wrap (IntKind.u64.wrap (v*4294967296)+d0)-IntKind.u64.wrap (p1*MJ))=v*4294967296+d0-p1*MJ:=by rw[bE,bE,bE,bE];omega);have X:=P.o;generalize BH:v*4294967296+d0-p1*MJ=x at*;clear BH;have FF:=U (HL.o R p1 v x HV.o HX.o M O);go_wp2_with fail;go_ret2;exact⟨by rw[ti.o,<-FF.o.1,<-FF.o.2];rfl,aY _ _⟩
   exact zFd
  have WY:0<=q*y0:=jO E l;have WZ:q*y0<=4294967295*4294967295:=l2 Y Y l Y;by_cases Q:4294967296*r+d1<q*y0;have j:=jx HD m l HU QF (.inr Q);have HN:=U (jy HD m WW j);have NS:1<=q:=Y;by_cases B:4294967296<=r+y1;have HQ:=U (jz HN m l F Ev Y B);have⟨Kd,qc⟩:=fj (T:=u*4294967296+d1) (MJ:=MJ) (q:=(q-1)) (by rw[<-C.o];exact HQ) Y;have WX:Z ((q-1)<4294967296):=U zFj;(have aca:0<=(q-1):=by have:=HQ.o;omega);generalize acb:(q-1)=R at*;exact zF0;exact zFd;have HQ:=U (pg HD m l Y);have⟨Kd,qc⟩:=fj (T:=u*4294967296+d1) (MJ:=MJ) (q:=q) (by rw[<-C.o];exact HQ) Y;have WX:Z (q<4294967296):=U zFj;(have aca:0<=q:=by have:=HQ.o;omega);generalize acb:q=R at*;exact zF0
def zF8(h:Γ:=by refine(ml _ w).mono ?_;rintro e w' ⟨rfl,rfl⟩;go_wp2;go_ret;exact⟨bI m.o.symm,aY _ _⟩):=h
def zFb(h:Γ:=by rintro e w' ⟨rfl,rfl⟩;go_wp2_with fail;go_ret;exact⟨bI m.o.symm,u⟩):=h
def W0(x y:Int)(w:ab)(L:bf x)(N:bf y):
  () 176 #[x,y] w λe w'=>e=.returned (fdiv x y:Int)/\Below w.1.size w w':=by
 by_cases z:y=0
 .subst z;by_cases B:x=0
  .subst B;go_in;go_wp2;go_ret;exact⟨bI ao,aY _ _⟩
  have hb:(x==0)=false:=by simpa using B
  have m:Z (fdiv x 0=kz (decide (x<0))):=U (by simp[fdiv,B]);go_in;go_wp2_with fail;exact zF8
 have hb:(y==0)=false:=by simpa using z
 have⟨a0,a1⟩:=iU L;have⟨b0,b1⟩:=iU N;have b2:1<=lj y:=by unfold lj;split<;>omega
 have F:Z (fdiv x y=hh (D4 (lj x*4294967296) (lj y)) (o2 x y)):=U (by rw[fdiv,ag z]);have O:=U (sK x w L);have P:=U (sK y w N);have C:Z ((!decide (x<0)==decide (y<0))=o2 x y):=rfl;generalize lj x=a at*;generalize lj y=b at*;have el:IntKind.u64.wrap (a*4294967296)=a*4294967296%18446744073709551616:=bE _;have G:Z (a/4294967296*18446744073709551616+a*4294967296%18446744073709551616=a*4294967296):=U Y;have T:0<=a*4294967296%18446744073709551616:=Y;have l1:a*4294967296%18446744073709551616<=18446744073709551615:=Y;have c0:0<=a/4294967296:=Y;have c1:a/4294967296<=2147483648:=Y;generalize hM:a*4294967296=M at*;generalize M%18446744073709551616=lo at*;generalize hH:a/4294967296=hi at*;have V:Z (0<=M):=U Y;go_in;go_wp2_with fail;refine O.o.mono ?_;rintro e w' ⟨rfl,rfl⟩;go_wp2_with fail;refine P.o.mono ?_;rintro e w' ⟨rfl,rfl⟩;by_cases D:b<=hi
 .have m:Z (fdiv x y=kz (o2 x y)):=U (by
   have hs:=G.o;have:9223372036854775808<=M/b:=(zM Y).2 (by
    have:9223372036854775808*b<=9223372036854775808*hi:=sx D ao;omega)
   rw[F.o,hh,ah];unfold D4;split<;>omega)
  go_wp2_with fail;rw[C.o];exact zF8
 have I:hi<b:=Y;have J:=U (Kc hi lo b w c0 I Y T l1);rw[G.o]at J;have K:Z (D4 M b=if b<2*(M%b)\/(2*(M%b)=b/\(M/b)%2=1)then M/b+1 else M/b):=rfl;have q0:0<=M/b:=kU V.o Y;have X:M/b<=18446744073709551615:=by
  have:M/b<18446744073709551616:=uL Y (by
   have hs:=G.o;have:18446744073709551616*(hi+1)<=18446744073709551616*b:=sx Y ao;omega)
  omega
 have r0:0<=M%b:=zK _ Y;have r1:M%b<b:=zF _ Y;generalize M/b=q at*;generalize M%b=r at*;have Q:=Jc q q0 X;go_wp2_with fail;refine J.o.mono ?_;rintro e w1 ⟨rfl,u⟩;clear J O P;by_cases R:9223372036854775808<=q
 .have m:Z (fdiv x y=kz (o2 x y)):=U (by
   rw[F.o,hh,ah];rw[K.o];split<;>omega)
  go_wp2_with fail;rw[C.o];refine(ml _ w1).mono ?_;exact zFb
 by_cases j:b<2*r\/(2*r=b/\q%2=1)
 .have m:Z (fdiv x y=hh (q+1) (o2 x y)):=U (by rw[F.o,K.o,ah j]);rcases j with j|⟨j,l⟩;(focus have d1:decide (b-r<r)=true:=by simp;omega);rotate_left;(focus (have d1:decide (b-r<r)=false:=by simp;omega);(have S:(r==b-r)=true:=by simp;omega);rw[l]at Q;clear j l);all_goals go_wp2_with fail;rw[C.o];refine(jt (q+1) _ w1 Y Y).mono ?_;rintro e w' ⟨rfl,rfl⟩;go_wp2_with fail;go_ret;exact⟨bI m.o.symm,u⟩
 have m:Z (fdiv x y=hh q (o2 x y)):=U (by rw[F.o,K.o,ag j]);by_cases E:2*r=b
 .have d1:decide (b-r<r)=false:=by simp;omega
  have S:(r==b-r)=true:=by simp;omega
  have l:q%2=0:=Y;rw[l]at Q;clear j l E;go_wp2_with fail;rw[C.o];refine(jt q _ w1 Y Y).mono ?_;exact zFb
 have d1:decide (b-r<r)=false:=by simp;omega
 have S:(r==b-r)=false:=by simp;omega
 clear j E;go_wp2_with fail;rw[C.o];refine(jt q _ w1 Y Y).mono ?_;rintro e w' ⟨rfl,rfl⟩;go_wp2;go_ret;exact⟨bI m.o.symm,u⟩
section
variable{w:World}{n:Nat}
def ac8(w:ab)(zs xs:au)(n m:Nat)(e:Ending)(w':ab):Prop:=
 ∃g b,e=.returned (.tuple #[.agg #[.slice (some ⟨g,0,none⟩) n n,.slice (some ⟨b,0,none⟩) m m],an])/\w.1.size<=g/\w.1.size<=b/\Own w' g 3 zs/\Own w' b 65 xs/\aj w' w
def Fm[a:Sl w A n zs](b:n<=1000000)(hr:aH zs=true)(hp:Z (aB zs=(m:Int))):() 62 #[(A,n,c),z] w (ac8 w zs (List.replicate m z) n m):=by
 obtain⟨a,rfl⟩:=a;exact(yw A c zs z m w b a hr hp).mono λ_ _ ⟨g,e,j,l,r,o1,u,hb⟩=>⟨g,e,by rw[j,fe],l,r,o1,u,⟨hb⟩⟩
end
variable{R b d r:Nat}
instance I6.mF{n:Int}:I6 (mF n):=⟨Je n⟩
instance I6.o8{l:au}:I6 (o8 l):=⟨AS l⟩
instance I6.div[a:I6 x][b:I6 y]:I6 (fdiv x y):=⟨Jb a.bd b.bd⟩
theorem cm.part(h:cm xs)(F W:Nat):cm ((xs.drop F).take W):=⟨λz b=>h.bd z (hJ (eS b))⟩
section
variable{w:World}{n:Nat}
def abe[a:Sl w A n xs][i:cm xs](b:n<=1000000):() 211 #[(A,n,c)] w (aL w (o8 xs:Int)):=by
 obtain⟨a,rfl⟩:=a;exact ll (VA A c xs w b i.hid a)
def QG{n:Int}:() 26 #[n] w (aL w (mF n:Int)):=ll (o7 n w)
def QH[a:I6 x][b:I6 y]:() 176 #[x,y] w (aL w (fdiv x y:Int)):=aaO (W0 x y w a.bd b.bd)
end
section
variable{w:World}{n:Nat}
def Fo[Sl w A n zs](e:n<=1000000)(hb:Z (Br zs=(b:Int))):() 175 #[(A,n,c)] w (aL w b):=cn (Wv e) (by rw[hb.o])
def zF5(h:Γ:=by rw[Q.o]at o2;exact⟨i+1,Y,by go_num,o2,(hS.at (w':=C)).aV n2 _,⟨(Bx.ak (w:=C)).aV n1 _⟩,⟨(aO G C).setCell (p:=⟨E,i,none⟩) J _⟩⟩):=h
def zFk(h:Γ:=by rintro rfl;simp at BI;omega):=h
def NT[a:Sl w A n zs][b:Sl w B m xs][i6:cm xs][ld:Le m d](hn:n<=1000000){W S:Nat}{V X:au}(hr:aw zs xs=true)(hk:y=1\/y=2)(D:Z (PW zs V R j r W S))(hX:Z (X=j0 (ib y W) xs j r S W (R*r))):
  () 161 #[y,.agg #[(A,n,c),(B,m,d)],W,S] w (dM w V X 0):=by
 obtain⟨CB,CP,FB⟩:=gW;have hE:Z (Hz y zs xs W S=0):=U (by rw[Hz,ag Y,ah hr,D.o.none]);have hV:Z (JP y zs xs W S=V):=U (by rw[JP,hE.o,ah rfl,D.o.pl]);have W4:=D.o.QC;have T:V.length=zs.length:=by rw[D.o.v,ei]
 obtain⟨M,hM⟩:=lh (R*r);have SQ:Z (aB V=(M:Int)):=U (by rw[D.o.xh,hM]);have O:xs.length=R*j:=by have I:=((aS _ _).1 hr).2;rw[D.o.size]at I;omega
 have hM6:M<=65536:=by have:=fS R D.o.nZ;have:=D.o.small;omega
 have hm6:m<=65536:=by rw[b.len,O];exact D.o.small
 have lz:0<m:=by rw[b.len,O];exact kY D.o.R1 (aQ D.o.n1 D.o.nZ)
 have han:=a.len;obtain⟨k,p4⟩:=lh (zs.length-1);have SR:k<zs.length:=by have:=D.o.len;omega
 have hZk:Z (zs[k]?=some (j:Int)):=U (by rw[<-p4];exact D.o.at_);have hVk:Z (V[k]?=some (r:Int)):=U (by rw[D.o.v,p4,jK SR]);have mk:IntKind.i64.wrap ((V.length:Int)-1)=(k:Int):=by rw[T,show(zs.length:Int)-1=(k:Int)from by omega];exact hC _ (by omega)
 have qW:=D.o.n1;have hn2:r<=1024:=aQ D.o.nZ D.o.Z2;have lu:=D.o.W1;have hkV:k<V.length:=Y;have W3:V.length<=1000000:=by rwa[T,<-a.len]
 have oI:=U O;have HM:=U hM;have Ki:=ld.le;have oP:k<n:=by rwa[a.len]
 obtain⟨bz,oz,z,rfl,obz,cz,hz⟩:=a.get oP;obtain rfl:z=(j:Int):=by have I:=hz.o;rw[hZk.o]at I;injection I with I;exact I.symm
 obtain⟨bx,ox,x0,rfl,obx,-,-⟩:=b.get lz;clear hz p4 O hM T SR han;go_in;go_wp2_with (first|(go_at_call 173;refine(Fh Y hE hV).mono ?_;rintro e u ⟨A',c',rfl,sJ,lJ,fJ,_⟩));obtain⟨bs,os,zn,rfl,obs,cs,vq⟩:=sJ.get hkV;obtain rfl:zn=(r:Int):=by have I:=vq.o;rw[hVk.o]at I;injection I with I;exact I.symm
 clear vq;obtain⟨G,rfl⟩:=lg u;go_wp2_with (go_at_call 62;refine(Fm Y W4 SQ).mono ?_;rintro e u ⟨g,E,rfl,hg,J,oS,oX,xo⟩);obtain⟨w1,rfl⟩:=lg u;refine aq ap (λu7 _=>?_);refine qL [0,1,2,3,4,5,6,7,8,9,10,11,12,13,14] ?_;refine a8 ?_;go_wp2_with fail;have n1:w1≠E:=by have:=oX.lt;omega
 have n2:g≠E:=oS.aF (cs:=ints (List.replicate M 0)) oX ao;have hfL:=λk=>iX (ib y W) xs j r S W k;have zl:=λk=>JN (ib y W) xs j r S W k;clear CP;have CP:=@bX;go_loopw [54] (λi wr=>∃k:Nat,k<=M/\i=.int .i64 k/\Own wr E 65 (fd (j0 (ib y W) xs j r S W) (List.replicate M 0) k)/\Own wr g 3 V/\Bx wr w1.1.size 28 #[.slice g V V.length,.slice E M M]/\aj wr G) (λi _=>M-(intOf i).toNat);exact⟨0,aR _,rfl,by simpa[fd,j0]using oX.at,oS.at,am,aC⟩;obtain⟨i,hi,rfl,hO,hS,hB,hp⟩:=hrel;by_cases P:i<M
 .obtain⟨F,hF⟩:∃F,Z (i/r*j+i%r*S=F):=⟨_,U rfl⟩;(have NU:F+W<=m:=by have:=(D.o.Eg (i:=i) (by rwa[HM.o])).2.2.2;rw[hF.o,<-oI.o,<-b.len]at this;exact this);have RK:(fd (j0 (ib y W) xs j r S W) (List.replicate M 0) i)[i]?=some 0:=mU (hfL i) (by simp[P]);obtain⟨L,HL⟩:∃L,Z ((xs.drop F).take W=L):=⟨_,U rfl⟩;have Q:=U (kK (f:=j0 (ib y W) xs j r S W) (ys:=List.replicate M 0) (k:=i) (z:=ib y W L) (hfL i) (by rw[zl,hF.o,HL.o]) (by simp[P]:(List.replicate M (0:Int))[i]?=some 0));(have sP:Sl w (some ⟨bx,ox+F,none⟩) W L:=by rw[<-HL.o];exact b.part NU);(have iL:cm L:=by rw[<-HL.o];exact i6.part F W);have BI:L.length=W:=sP.len.symm;have tk:W<=1000000:=Y;rcases hk with rfl|rfl
  .obtain⟨bb,hb,hbl,hbm⟩:=Bt (l:=L) zFk;have HB:=U hb;have cbb:w.cell? (bx,ox+F+bb)=some (.int .i64 (Hy L)):=sP.rd.all hbm;have W5:bb<W:=Y;(have N:ib 1 W L=Hy L:=by simp[ib]);rw[N]at Q;clear hb hbl hbm BI N;go_wp2_with (go_at_call 174;refine(p8 Y Y hF Y Y Y lu NU).mono ?_;rintro e u ⟨rfl,_⟩);refine aU G (λw9=>Bx w9 w1.1.size 28 #[.slice g V V.length,.slice E M M]) ap am (λC _=>?_);refine br 0 ?_;refine br 1 ?_;refine br 2 ?_;refine br 3 ?_;refine br 4 ?_;refine aJ 5 λK hK=>?_;go_simp;refine(Fo Y HB).mono ?_;rintro e C ⟨rfl,_⟩;dsimp only;refine aE hK ?_ ⟨aG G _,am⟩;refine br 6 ?_;refine br 7 ?_;refine br 8 ?_;refine aJ 9 λK hK=>?_;have oD:=((hO).at (w':=C)).cell RK;have o6:=((hO).at (w':=C)).frozen i;go_simp;refine aE hK ?_ ⟨⟨(aO G C).setCell (p:=⟨E,i,none⟩) J _⟩,⟨(Bx.ak (w:=C)).aV n1 _⟩⟩;clear hK K oD o6;refine a8 ?_;go_wp2_with fail;go_roundw;have o2:=(hO.at (w':=C)).av i (Hy L);exact zF5;exact zF6
  have N:ib 2 W L=fdiv (o8 L) (mF W):=by simp[ib]
  rw[N]at Q;clear BI N;go_wp2_with (go_at_call 174;refine(p8 Y Y hF Y Y Y lu NU).mono ?_;rintro e u ⟨rfl,_⟩);refine aU G (λw9=>Bx w9 w1.1.size 28 #[.slice g V V.length,.slice E M M]) ap am (λC _=>?_);refine br 0 ?_;refine br 1 ?_;refine br 2 ?_;refine br 3 ?_;refine br 5 ?_;refine aJ 4 λK hK=>?_;go_simp;refine(abe Y).mono ?_;rintro e C ⟨rfl,_⟩;dsimp only;refine aE hK ?_ ⟨aG G _,am⟩;refine aJ 6 λK hK=>?_;go_simp;refine(QG).mono ?_;rintro e C ⟨rfl,_⟩;dsimp only;refine aE hK ?_ ⟨aG G _,am⟩;refine aJ 7 λK hK=>?_;go_simp;refine(QH).mono ?_;rintro e C ⟨rfl,_⟩;dsimp only;refine aE hK ?_ ⟨aG G _,am⟩;refine br 8 ?_;refine aJ 9 λK hK=>?_;have oD:=((hO).at (w':=C)).cell RK;have o6:=((hO).at (w':=C)).frozen i;go_simp;refine aE hK ?_ ⟨⟨(aO G C).setCell (p:=⟨E,i,none⟩) J _⟩,⟨(Bx.ak (w:=C)).aV n1 _⟩⟩;clear hK K oD o6;refine a8 ?_;go_wp2_with fail;go_roundw;have o2:=(hO.at (w':=C)).av i (fdiv (o8 L) (mF W));exact zF5;exact zF6
 rw[mo (by simpa using P)]at hO;obtain rfl:i=M:=Y;have HO:=U hO;clear hO;have kR:Bx wr (w.1.size+1) 28 #[(),()]:=am;have l1:=hS.aF kR.ak ao;have l2:=HO.o.aF kR.ak ao;go_wp2_with fail;have k3:=kR.ak.bP (.slice g V V.length) (.slice E i i);have B3:=bA (aO w wr) (p:=w.1.size+1) Y (.slice g V V.length) (.slice E i i);have o3:=hS.bH l1 (.slice g V V.length) (.slice E i i);have o4:=HO.o.bH l2 (.slice g V V.length) (.slice E i i);obtain⟨r0,r1⟩:=bM k3;refine aZ (v:=.tuple #[.agg #[.slice g V V.length,.slice E i i],an]) (by simp[results,results161,go_sem,r0,r1]) rfl ?_;have ru:w<=g:=aQ (ai (w:=w) (w':=G)) hg;have yJ:w<=E:=aQ (ai (w:=w) (w':=G)) J;rw[hX.o,HM.o];exact⟨_,_,_,_,by rw[iX],⟨o3.rd,rfl⟩,⟨o4.rd,rfl⟩,⟨al _⟩,⟨by rw[iX];exact al _⟩,⟨λad e=>by cases e;exact ru⟩,⟨λad e=>by cases e;exact yJ⟩,⟨B3⟩⟩
end
variable{kind:Int}{c' d' m':Nat}{C D:Option Addr}
def sS{b:Int}{xs gs:au}{e n S W:Nat}:∀(i q:Nat),bf (j3 b xs gs e n S W i q)
 |0,_=>by unfold j3 bf;omega
 |i+1,q=>by unfold j3;split;exact hW _ _;exact sS i q
instance I6.j3{b:Int}{xs gs:au}{e n S W i q:Nat}:I6 (j3 b xs gs e n S W i q):=⟨sS i q⟩
section
variable{qab n S W F N:Nat}
def SS(hF:i/n*qab+i%n*S=F)(hb:Br ((xs.drop F).take W)=(m:Int))(b:gs[i]?=some y):
  (tab N (j3 1 xs gs qab n S W i)).set (F+m) (bB (j3 1 xs gs qab n S W i (F+m)) y)=tab N (j3 1 xs gs qab n S W (i+1)):=by
 rw[JO];refine mQ λq _=>?_;rw[j3,hF,Ww,ah rfl,hb,a9,NB,ah rfl,a5,b];by_cases h:q=F+m;subst h;simp;simp[h]
def BJ(xs gs:au)(qab n S W i F:Nat)(y:Int)(j q:Nat):Int:=if F<=q/\q<F+j then bB (j3 2 xs gs qab n S W i q) y else j3 2 xs gs qab n S W i q
def SU:tab N (BJ xs gs qab n S W i F y 0)=tab N (j3 2 xs gs qab n S W i):=mQ λq _=>by rw[BJ,ag Y]
def abf:BJ xs gs qab n S W i F y j (F+j)=j3 2 xs gs qab n S W i (F+j):=by rw[BJ,ag Y]
def SV:(tab N (BJ xs gs qab n S W i F y j)).set (F+j) (bB (j3 2 xs gs qab n S W i (F+j)) y)=tab N (BJ xs gs qab n S W i F y (j+1)):=by
 rw[JO];refine mQ λq _=>?_;unfold BJ;by_cases h:q=F+j;subst h;rw[ah rfl,ah Y];rw[ag h];by_cases b:F<=q/\q<F+j;rw[ah b,ah Y];rw[ag b,ag Y]
def W6(hF:i/n*qab+i%n*S=F)(e:gs[i]?=some z)(j:fdiv z (mF W)=y):tab N (BJ xs gs qab n S W i F y W)=tab N (j3 2 xs gs qab n S W (i+1)):=
 mQ λq _=>by
 have b:¬(2:Int)=1:=by decide
 rw[BJ,j3,hF];unfold Ww NB;rw[ag b,ag b,a5,e,sC,j];by_cases h:F<=q/\q<F+W;rw[ah h,ah (by simpa using h)];rw[ag h,ag (by simpa using h)]
end
section
variable{w:World}{n:Nat}{ts:List Int}
def HP{V:au}[a:Sl w A n zs][aa:Sl w B m xs][Sl w C R V][b':Sl w D m' ys][cm ys][ld:Le m d](hn:n<=1000000)(HU:R<=1000000){W S:Nat}{X:au}(hr:aw zs xs=true)(hk:y=1\/y=2)(I:Z (PW zs V j r b W S))(Kj:aw V ys=true)(hX:Z (X=tab (j*r) (j3 y xs ys r b S W (j*b)))):
  () 109 #[y,.agg #[(A,n,c),(B,m,d)],.agg #[(C,R,c'),(D,m',d')],W,S] w (dM w zs X 0):=by
 obtain⟨CB,CP,FB⟩:=gW;have FP:=@jS;have hE:Z (Hz y zs xs W S=0):=U (by rw[Hz,ag Y,ah hr,I.o.none]);have hV:Z (JP y zs xs W S=V):=U (by rw[JP,hE.o,ah rfl,I.o.pl]);have W7:V.length=zs.length:=by rw[I.o.v,ei]
 obtain⟨M,hM⟩:=lh (j*b);obtain⟨N,hN⟩:=lh (j*r);have jY:xs.length=N:=by have J:=((aS _ _).1 hr).2;rw[I.o.size]at J;omega
 have vi:ys.length=M:=by have J:=((aS _ _).1 Kj).2;rw[I.o.xh]at J;omega
 have hN6:N<=65536:=by rw[<-hN];exact I.o.small
 have hM6:M<=65536:=by have:=fS j I.o.nZ;omega
 have hbm:=aa.len;have aeC:=b'.len;have hm6:m<=65536:=Y;have Ec:0<N:=by rw[<-hN];exact kY I.o.R1 (aQ I.o.n1 I.o.nZ)
 have han:=a.len;obtain⟨k,p4⟩:=lh (zs.length-1);have SR:k<zs.length:=by have:=I.o.len;omega
 have hZk:Z (zs[k]?=some (r:Int)):=U (by rw[<-p4];exact I.o.at_);have hVk:Z (V[k]?=some (b:Int)):=U (by rw[I.o.v,p4,jK SR]);have mk:IntKind.i64.wrap ((V.length:Int)-1)=(k:Int):=by rw[W7,show(zs.length:Int)-1=(k:Int)from by omega];exact hC _ (by omega)
 have qW:=I.o.n1;have hn2:b<=1024:=aQ I.o.nZ I.o.Z2;have lu:=I.o.W1;have hkV:k<V.length:=Y;have W3:V.length<=1000000:=Y;have HM:=U hM;have HN:=U hN;have Ki:=ld.le;have oP:k<n:=Y;obtain⟨bz,oz,z,rfl,obz,cz,hz⟩:=a.get oP;obtain rfl:z=(r:Int):=by have J:=hz.o;rw[hZk.o]at J;injection J with J;exact J.symm
 obtain⟨bx,ox,x0,rfl,obx,-,-⟩:=aa.get (k:=0) Y;have hmN:m=N:=Y;have hmM:m'=M:=Y;subst hmN hmM;obtain⟨a,rfl⟩:=a;have a:Sl w (some ⟨bz,oz,none⟩) zs zs:=⟨a,rfl⟩;have oI:=U jY;have NV:0<xs.length:=Y;clear hz p4 jY hM W7 SR han hN hbm aeC vi;go_in;go_upto_region 6 with(first|(go_at_call 173;refine(Fh Y hE hV).mono ?_;rintro e u ⟨A',c',rfl,sJ,lJ,fJ,_⟩)|(go_at_call 69;refine(bK Y).mono ?_;rintro e u ⟨rfl,_⟩)|(go_at_call 70;refine(kI Y Y).mono ?_;rintro e u ⟨rfl,_⟩));obtain⟨O,rfl⟩:=lg u;obtain⟨bs,os,zn,rfl,obs,cs,vq⟩:=sJ.get hkV;obtain rfl:zn=(b:Int):=by have J:=vq.o;rw[hVk.o]at J;injection J with J;exact J.symm
 clear vq hr Kj;go_wp2_with fail;refine(gX Y Y).mono ?_;rintro e w1 ⟨g,E,rfl,hg,Q,oS,oX,xo⟩;have vj:=λty=>hZ (P:=prog) 26 65 ty underlying26 ap (oX.alloc (.cells #[.slice g zs zs.length,.slice E xs xs.length] 28)) NV xs.length;have n1:g≠E:=oS.aF (cs:=ints xs) oX ao;have n2:w1≠E:=by have:=oX.lt;omega
 have K:=fE (bs:=[E]) (g:=E) aI (List.replicate xs.length an) 0 (hU.refl [E] (w1.alloc (.cells #[.slice g zs zs.length,.slice E xs xs.length] 28)));have BK:=(oX.alloc (.cells #[.slice g zs zs.length,.slice E xs xs.length] 28)).clear;have vL:=K.own (oS.alloc (.cells #[.slice g zs zs.length,.slice E xs xs.length] 28)) (by simpa using n1);have T:=K.ak (aA.new w1 28 #[.slice g zs zs.length,.slice E xs xs.length]) (by simpa using n2);have pW:aj _ O:=⟨dH (n:=O.1.size) (g:=E) Q (List.replicate xs.length an) 0 (aO O (w1.alloc (.cells #[.slice g zs zs.length,.slice E xs xs.length] 28)))⟩;obtain⟨W0,hW0⟩:=lg ((w1.alloc (.cells #[.slice g zs zs.length,.slice E xs xs.length] 28)).setCells E 0 (List.replicate xs.length an));rw[<-hW0]at BK vL T pW;replace T:Bx W0 w1.1.size 28 #[.slice g zs zs.length,.slice E xs xs.length]:=⟨T⟩;go_wp2_with fail;rw[<-hW0];clear vj hW0 K oS oX xo;obtain⟨G,SP⟩:=lh xs.length;rw[SP]at BK T;obtain rfl:G=m:=by rw[<-SP,oI.o]
 clear SP;refine aq ap (λu8 _=>?_);refine qL [0,1,2,3,4,5,6,7,8,9,10,11,12,13,14] ?_;refine a8 ?_;go_wp2_with fail;go_loopw [65] (λi wr=>∃k:Nat,k<=m'/\i=.int .i64 k/\Own wr E 65 (tab G (j3 y xs ys r b S W k))/\Own wr g 3 zs/\Bx wr w1.1.size 28 #[.slice g zs zs.length,.slice E G G]/\aj wr O) (λi _=>m'-(intOf i).toNat);exact⟨0,aR _,rfl,by rw[show tab G (j3 y xs ys r b S W 0)=List.replicate G 0 from(mQ λq _=>by simp[j3]).trans Sv];exact BK.at,vL.at,am,aC⟩;obtain⟨i,hi,rfl,hO,hS,hB,hp⟩:=hrel;by_cases bD:i<m'
 .obtain⟨by',oy,ab,rfl,oby,cy,hy⟩:=b'.get bD;obtain⟨F,hF⟩:∃F,Z (i/b*r+i%b*S=F):=⟨_,U rfl⟩;(have NU:F+W<=G:=by have:=(I.o.Eg (i:=i) (by rwa[HM.o])).2.2.2;rw[hF.o,HN.o]at this;exact this);obtain⟨L,HL⟩:∃L,Z ((xs.drop F).take W=L):=⟨_,U rfl⟩;(have sP:Sl w (some ⟨bx,ox+F,none⟩) W L:=by rw[<-HL.o];exact aa.part NU);have iy:I6 ab:=cm.at hy.o;have BI:L.length=W:=sP.len.symm;have tk:W<=1000000:=Y;have og:Old E wr:=⟨hO.lt⟩;rcases hk with rfl|rfl
  .obtain⟨bb,hb,hbl,-⟩:=Bt (l:=L) zFk;have HB:=U hb;have W5:bb<W:=Y;have oD:=hO.cell (vG (F:=j3 1 xs ys r b S W i) (k:=F+bb) (show F+bb<G by omega));have o6:=hO.frozen (F+bb);have Kk:=U (SS (N:=G) hF.o (by rwa[HL.o]) hy.o);clear hb hbl BI;go_wp2_with (first|(go_at_call 174;refine(p8 Y Y hF Y Y Y lu NU).mono ?_;rintro e u ⟨rfl,_⟩)|(go_at_call 175;refine(Fo Y HB).mono ?_;rintro e u ⟨rfl,_⟩)|(go_at_call 171;refine(ma).mono ?_;rintro e u ⟨rfl,_⟩));go_roundw;have o2:=(hO.at (w':=u)).av (F+bb) (bB (j3 1 xs ys r b S W i (F+bb)) ab);rw[Kk.o]at o2;exact⟨i+1,Y,by go_num,o2,(hS.at (w':=u)).aV n1 _,⟨(Bx.ak (w:=u)).aV n2 _⟩,⟨(aO O u).setCell (p:=⟨E,F+bb,none⟩) Q _⟩⟩;exact zF6
  obtain⟨y2,hy2⟩:=lh (fdiv ab (mF W));have SW:=U (W6 (xs:=xs) (N:=G) hF.o hy.o hy2);have iy2:I6 y2:=hy2▸(am:I6 (fdiv ab (mF W)));clear BI;go_wp2_with (first|(go_at_call 174;refine(p8 Y Y hF Y Y Y lu NU).mono ?_;rintro e u ⟨rfl,_⟩)|(go_at_call 26;refine(QG).mono ?_;rintro e u ⟨rfl,_⟩)|(go_at_call 176;refine(QH).mono ?_;rintro e u ⟨rfl,_⟩));go_loopw [104] (λac wq=>∃q:Nat,q<=W/\ac=.int .i64 q/\Own wq E 65 (tab G (BJ xs ys r b S W i F y2 q))/\Own wq g 3 zs/\Bx wq w1.1.size 28 #[.slice g zs zs.length,.slice E G G]/\aj wq O) (λac _=>W-(intOf ac).toNat);exact⟨0,aR _,rfl,by rw[SU];exact hO.at,hS.at,am,aC⟩;clear hO hS hB og;obtain⟨q,hq,rfl,hO,hS,hB,hp⟩:=hrel;by_cases agp:q<W
  .have oD:=hO.cell (vG (F:=BJ xs ys r b S W i F y2 q) (k:=F+q) (show F+q<G by omega));rw[abf]at oD;have o6:=hO.frozen (F+q);have og:Old E wr:=⟨hO.lt⟩;go_wp2_with (go_at_call 171;refine(ma).mono ?_;rintro e u ⟨rfl,_⟩);go_roundw;have o2:=(hO.at (w':=u)).av (F+q) (bB (j3 2 xs ys r b S W i (F+q)) y2);rw[SV]at o2;exact⟨q+1,Y,by go_num,o2,(hS.at (w':=u)).aV n1 _,⟨(Bx.ak (w:=u)).aV n2 _⟩,⟨(aO O u).setCell (p:=⟨E,F+q,none⟩) Q _⟩⟩;exact zF6
  obtain rfl:q=W:=Y;rw[SW.o]at hO;go_wp2_with fail;go_roundw;exact⟨i+1,Y,by go_num,hO,hS,hB,hp⟩;exact zF6
 obtain rfl:i=m':=Y;have HO:=U hO;clear hO;have kR:Bx wr (w.1.size+1+1) 28 #[(),()]:=am;have l1:=hS.aF kR.ak ao;have l2:=HO.o.aF kR.ak ao;go_wp2_with fail;have k3:=kR.ak.bP (.slice g zs zs.length) (.slice E G G);have B3:=bA (aO w wr) (p:=w.1.size+1+1) Y (.slice g zs zs.length) (.slice E G G);have o3:=hS.bH l1 (.slice g zs zs.length) (.slice E G G);have o4:=HO.o.bH l2 (.slice g zs zs.length) (.slice E G G);obtain⟨r0,r1⟩:=bM k3;refine aZ (v:=.tuple #[.agg #[.slice g zs zs.length,.slice E G G],an]) (by simp[results,results109,go_sem,r0,r1]) rfl ?_;have ru:w<=g:=aQ (ai (w:=w) (w':=O)) hg;have yJ:w<=E:=aQ (ai (w:=w) (w':=O)) Q;rw[hX.o,HM.o,HN.o];exact⟨_,_,_,_,by rw[h2],⟨o3.rd,rfl⟩,⟨o4.rd,rfl⟩,⟨al _⟩,⟨by rw[h2];exact al _⟩,⟨λad e=>by cases e;exact ru⟩,⟨λad e=>by cases e;exact yJ⟩,⟨B3⟩⟩
end
variable{side:Int}{us:List Tn}
section
variable{w:World}{n:Nat}{ts:List Int}
def zFf(h:Γ:=by simp[results,results164,go_sem,r0,r1]):=h
def ace[Sl w A n zs][Sl w B m xs][Sl w C R ts](N:n<=1000000)(G:R<=1000000)(h:(aw zs xs&&aw ts xs)=false):() 164 #[.agg #[(A,n,c),(B,m,d)],(C,R,c')] w (dM w [] [] 20):=by
 have O:=@az;have P:=@aP;rcases hr:aw zs xs with _|_
 .clear h;go_in;go_wp2_with (go_at_call 69;refine(bK Y).mono ?_;rintro e u ⟨rfl,_⟩);have l:Bx u (w.1.size+1) 28 #[(),()]:=am;have r:=l.ak.bP () ();have y:=bA (aO w u) (p:=w.1.size+1) Y () ();obtain⟨r0,r1⟩:=bM r;exact aZ (v:=.tuple #[.agg #[(),()],(20:Int)]) zFf rfl<|⟨none,0,none,0,rfl,Sl.empty,Sl.empty,⟨al _⟩,⟨al _⟩,bL.none,bL.none,⟨y⟩⟩
 have I:aw ts xs=false:=by simpa[hr]using h
 clear h;go_in;go_wp2_with (first|(go_at_call 69;refine(bK Y).mono ?_;rintro e u ⟨rfl,_⟩)|(go_at_call 25;refine(No Y I).mono ?_;rintro e u ⟨b,c',j,d',rfl,J,K,L,M,fA,F,_⟩));have l:Bx u (w.1.size+1) 28 #[(),()]:=am;have r:=l.ak.bP (b,0,c') (j,0,d');have y:=bA (aO w u) (p:=w.1.size+1) Y (b,0,c') (j,0,d');have z:=J.bH fA (Bx.ak (g:=w.1.size+1)).lt (b,0,c') (j,0,d');have E:=K.bH F (Bx.ak (g:=w.1.size+1)).lt (b,0,c') (j,0,d');obtain⟨r0,r1⟩:=bM r;exact aZ (v:=.tuple #[.agg #[(b,0,c'),(j,0,d')],(20:Int)]) zFf rfl<|⟨b,c',j,d',rfl,z,E,L,M,fA.less ai,F.less ai,⟨y⟩⟩
def HN[Sl w A n zs][Sl w B m xs][Sl w C R ts](N:n<=1000000)(hm:m<=1000000)(z:R<=1000000)(hr:aw zs xs=true)(E:aw ts xs=true):() 164 #[.agg #[(A,n,c),(B,m,d)],(C,R,c')] w (dM w ts xs 0):=by
 have O:=@az;have P:=@aP;go_in;go_wp2_with (first|(go_at_call 69;refine(bK Y).mono ?_;rintro e u ⟨rfl,_⟩)|(go_at_call 25;refine(sM Y Y E).mono ?_;rintro e u ⟨b,c',j,d',rfl,F,G,I,J,fA,y,_⟩));have K:Bx u (w.1.size+1) 28 #[(),()]:=am;have L:=K.ak.bP (.slice b ts c') (.slice j xs d');have M:=bA (aO w u) (p:=w.1.size+1) Y (.slice b ts c') (.slice j xs d');have l:=F.bH fA (Bx.ak (g:=w.1.size+1)).lt (.slice b ts c') (.slice j xs d');have r:=G.bH y (Bx.ak (g:=w.1.size+1)).lt (.slice b ts c') (.slice j xs d');obtain⟨r0,r1⟩:=bM L;exact aZ (v:=.tuple #[.agg #[.slice b ts c',.slice j xs d'],an]) zFf rfl<|⟨b,c',j,d',rfl,l,r,I,J,fA.less ai,y.less ai,⟨M⟩⟩
def xp[Sl w A n zs][Sl w B m xs][Sl w C R ts][Sl w D m' ys](P:n<=1000000)(z:R<=1000000)(E:m'<=1000000)(hr:aw zs xs=true)(F:aw ts ys=true)(G:aw zs ys=true):() 179 #[.agg #[(A,n,c),(B,m,d)],.agg #[(C,R,c'),(D,m',d')]] w (dM w zs ys 0):=by
 have Q:=@az;have S:=@aP;go_in;go_wp2_with (first|(go_at_call 69;refine(bK Y).mono ?_;rintro e u ⟨rfl,_⟩)|(go_at_call 25;refine(sM Y Y G).mono ?_;rintro e u ⟨b,c',j,d',rfl,I,J,K,L,fA,y,_⟩));have M:Bx u (w.1.size+1+1) 28 #[(),()]:=am;have N:=M.ak.bP (.slice b zs c') (.slice j ys d');have O:=bA (aO w u) (p:=w.1.size+1+1) Y (.slice b zs c') (.slice j ys d');have l:=I.bH fA (Bx.ak (g:=w.1.size+1+1)).lt (.slice b zs c') (.slice j ys d');have r:=J.bH y (Bx.ak (g:=w.1.size+1+1)).lt (.slice b zs c') (.slice j ys d');obtain⟨r0,r1⟩:=bM N;exact aZ (v:=.tuple #[.agg #[.slice b zs c',.slice j ys d'],an]) (by simp[results,results179,go_sem,r0,r1]) rfl<|⟨b,c',j,d',rfl,l,r,K,L,fA.less ai,y.less ai,⟨O⟩⟩
theorem HO(A:bz)(l c:Nat)(y:l+1<=c):
  ∃u,(∀w,(Instr.slice 23 (.slice A (l+1) c) (some (.int .i64 1)) none none).run prog w=.ok (.slice u l (c-1)) w)/\∀w us,nu w A us->us.length=l+1->nu w u (us.drop 1):=by
 have hs:∀w,(sizeOf (prog.elem 23)).run prog w=.ok 2 w:=λw=>by obtain⟨i,hi,e⟩:=bJ.1 (show(prog.info? (prog.elem 23)).map (·.size)=some 2 from by kernel_rfl);simp[sizeOf,typeInfo,hi,e]
 refine⟨if c=1 then A else A.map (·.add 2),λw=>?_,λw us h E j t r=>?_⟩;rw[dB w 23 A (l+1) c ap .i64 1 Y Y,hs];simp[Result.andThen,sliced];rw[iF]at r;obtain⟨b,o,rfl,k⟩:=h _ t r;have z:=(bj.1 r).1;rw[ag Y];exact⟨b,o+2,by simp[Addr.add],ay⟩
def NW{zs ts:au}{side:Int}:(dF zs ts side).length<=zs:=by
 unfold dF hT;split<;>simp
def zF4(h:Γ:=by go_ret2;exact⟨none,0,rfl,Sl.empty,⟨al _⟩,bL.none,aC⟩):=h
def zF7(h:Γ:=by go_wp2_with (go_at_call 69;refine(bK Y).mono ?_;rintro e u ⟨rfl,_⟩);exact zF4):=h
theorem BL[a:Ts w A n us][lc:Le n c](hn:n<=1000000)(hz:Z (∀t∈us,t.zs.length<=1000000)){S:au}(hE:Z (zd side us=E))(hS:Z (S=if E=0 then vD side us else[])):
  () 177 #[side,(A,n,c)] w (jX w S E):=by
 obtain⟨CB,CP,FB⟩:=gW;by_cases h0:n=0
 .subst h0;obtain rfl:us=[]:=ay;obtain rfl:E=20:=hE.o.symm;(obtain rfl:S=[]:=by rw[hS.o];rfl);go_in;go_wp2_with fail;exact zF4
 obtain⟨l,rfl⟩:∃l,n=l+1:=⟨n-1,Y⟩;obtain⟨t0,r,rfl⟩:∃t0 r,us=t0::r:=by
  cases us with
  |nil=>grind
  |cons t0 r=>grind
 have HL:Z (r.length=l):=U ay;obtain⟨b,o,A0,c0,z0,B0,d0,x0,rfl,ob,q0,q1,s0,sx0,oM,i0,ht0⟩:=a.get (k:=0) Y;simp only[fo,d9]at q0 q1;obtain rfl:t0=⟨A0,c0,z0,B0,d0,x0⟩:=by have:=ht0.o;simpa using this
 have fN:z0.length<=1000000:=hz.o _ (dD);have y:=hE.o;rw[xd]at y;simp only at y;rcases hr:aw z0 x0 with _|_;obtain rfl:E=20:=ay;obtain rfl:S=[]:=by rw[hS.o];rfl
 clear y h0 hE hS;go_in;exact zF7;rw[hr,ah rfl]at y;by_cases K:l=0/\¬(0<=side/\side<z0)
 .obtain⟨rfl,L⟩:=K;obtain rfl:r=[]:=ay;obtain rfl:E=11:=ay;(obtain rfl:S=[]:=by rw[hS.o];rfl);clear y h0 hE hS;by_cases qQ:side<0;rotate_left;(focus have vp:(z0.length:Int)<=side:=Y;clear L);all_goals go_in;go_wp2_with (first|(go_at_call 69;refine(bK Y).mono ?_;rintro e u ⟨rfl,_⟩)|(go_at_call 103;refine(ly Y).mono ?_;rintro e u ⟨gS,rfl,X,fS,_⟩));go_ret2;exact⟨none,0,rfl,Sl.empty,⟨al _⟩,bL.none,aC⟩
 have HJ:Z (xc side z0 r=E):=ay;have HS:Z (S=if E=0 then zc side z0 r else[]):=hS;obtain⟨A',kE,M⟩:=HO (some ⟨b,o,none⟩) l c lc.le;have HRD:=U M;have ar:Ts w A' l r:=⟨M w _ a.rd a.len.symm,HL.o.symm⟩;have hzr:Z (∀t∈r,t.zs.length<=1000000):=λt ht=>hz.o t ay;clear y hE hS M;have j:l=0->0<=side/\side<z0:=ay;clear K;by_cases N:l=0
 .obtain⟨p0,p1⟩:=j N;subst N;obtain rfl:r=[]:=ay;obtain rfl:E=0:=HJ.o.symm;(obtain rfl:S=z0:=by rw[HS.o];rfl);clear j;go_in;go_wp2_with (first|(go_at_call 69;refine(bK Y).mono ?_;rintro e u ⟨rfl,_⟩)|(go_at_call 103;refine(ly Y).mono ?_;rintro e u ⟨gS,rfl,X,fS,_⟩));refine l6 1 ?_;rw[gI];go_wp2_with fail;go_ret2;exact⟨_,_,rfl,X,⟨al _⟩,fS.less ai,aC⟩
 have En:0<l:=Y;clear j N;go_in;go_wp2_with (first|(go_at_call 69;refine(bK Y).mono ?_;rintro e u ⟨rfl,_⟩)|(go_at_call 103;refine(ly Y).mono ?_;rintro e u ⟨gS,rfl,X,fS,_⟩));go_loopw [6,42] (λs i wr=>∃(k:Nat) (O:bz) (c2:Nat) (T:au),k<=l/\i=.int .i64 k/\s=.slice O T c2/\Sl wr O T T/\Le T.length c2/\bL w.1.size O/\T.length<=1000000/\Z (xc side T (r.drop k)=E)/\Z (zc side T (r.drop k)=zc side z0 r)/\aj wr u) (λ_ i _=>l-(intOf i).toNat);exact⟨0,_,_,z0,aR _,rfl,rfl,X,⟨al _⟩,fS.less ai,fN,HJ,U rfl,aC⟩;obtain⟨k,O,c2,T,hk,rfl,rfl,sT,lT,fT,hT,G,P,hp⟩:=hrel;by_cases bD:k<l
 .obtain⟨b',o',A1,c1,z1,B1,d1,x1,rfl,ob',q2,q3,s1,t1,Ev,i1,ht⟩:=ar.get bD;have gu:=hzr.o _ (aK ht.o);simp only at gu;have HD:Z (r.drop k=⟨A1,c1,z1,B1,d1,x1⟩::r.drop (k+1)):=U (by
   obtain⟨zf,e⟩:=bj.1 ht.o;rw[<-e];exact e7 zf)
  rcases hr1:aw z1 x1 with _|_;(obtain rfl:E=20:=by have:=G.o;rw[HD.o]at this;simpa[xc,hr1]using this.symm);(obtain rfl:S=[]:=by rw[HS.o];rfl);exact zF7;obtain⟨J,I⟩:=l8 (ec T z1 side);obtain⟨V,z⟩:=l8 (dF T z1 side);by_cases F:J=0
  .subst F;go_wp2_with (first|(go_at_call 69;refine(bK Y).mono ?_;rintro e u ⟨rfl,_⟩)|(go_at_call 191;refine(vE Y Y I z).mono ?_;rintro e u ⟨A',c',rfl,sJ,lJ,fJ,_⟩));go_roundw;exact⟨k+1,A',c',V,Y,by go_num,rfl,sJ,lJ,fJ.less ai,by rw[<-z.o];have:=NW (zs:=T) (ts:=z1) (side:=side);omega,U (by have:=G.o;rw[HD.o]at this;simpa[xc,hr1,I.o,z.o]using this),U (by have:=P.o;rw[HD.o]at this;simpa[zc,z.o]using this),aC⟩;exact zF6
  have e1:(J !=0)=true:=by simp[F]
  obtain rfl:E=J:=by have:=G.o;rw[HD.o]at this;simp[xc,hr1,I.o,F]at this;exact this.symm
  obtain rfl:S=[]:=by rw[HS.o,ag F]
  clear F;go_wp2_with (first|(go_at_call 69;refine(bK Y).mono ?_;rintro e u ⟨rfl,_⟩)|(go_at_call 191;refine(vE Y Y I z).mono ?_;rintro e u ⟨A',c',rfl,sJ,lJ,fJ,_⟩));exact zF4
 have Q:Z (r.drop k=[]):=eU (by rw[HL.o];omega);obtain rfl:E=0:=by have:=G.o;rw[Q.o]at this;exact this.symm
 obtain rfl:S=T:=by rw[HS.o,ah rfl,<-P.o,Q.o];rfl
 go_wp2_with fail;go_ret2;exact⟨O,c2,rfl,sT,lT,fT,aC⟩
end
section
variable{I:Nat}{xg:List Int}{P:Program}
def ue(I F T e:Nat)(b:au)(i:Nat):List Int:=List.replicate (F*I) 0++(b.drop (i*((T-F)*I))).take ((T-F)*I)++List.replicate ((e-T)*I) 0
def ph(P I F T e:Nat)(b:au)(i:Nat):List Int:=(List.range i).flatMap (ue I F T e b)++List.replicate ((P-i)*(e*I)) 0
section
variable{P F T qab:Nat}
def HQ(hF:F<=T)(b:T<=qab):F*I+(T-F)*I+(qab-T)*I=qab*I:=by
 rw[<-im,<-im];congr 1;omega
def Ew(hF:F<=T)(b:T<=qab)(h:(i+1)*((T-F)*I)<=xg):(ue I F T qab xg i).length=qab*I:=by
 rw[f7]at h;have:=HQ (I:=I) hF b;simp[ue];omega
def rC(hF:F<=T)(b:T<=qab)(h:i*((T-F)*I)<=xg):((List.range i).flatMap (ue I F T qab xg)).length=i*(qab*I):=by
 induction i with
 |zero=>simp
 |succ i e=>have j:=h;rw[f7]at j;rw[iK,nK,bh,e Y];simp only[mu,List.flatMap_nil,ev];rw[Ew hF b h,f7]
def rD(hF:F<=T)(b:T<=qab)(hi:i<=P)(h:i*((T-F)*I)<=xg):(ph P I F T qab xg i).length=P*(qab*I):=by
 rw[ph,bh,rC hF b h,fe,<-im];congr 1;omega
def SX(hF:F<=T)(j:T<=qab)(hi:i<P)(h:(i+1)*((T-F)*I)<=xg):
  over (ph P I F T qab xg i) ((xg.drop (i*((T-F)*I))).take ((T-F)*I)) (i*(qab*I)+F*I)=ph P I F T qab xg (i+1):=by
 have l:=h;rw[f7]at l;have hs:=HQ (I:=I) hF j;have e:=rC (I:=I) hF j (show i*((T-F)*I)<=xg by omega);have m:((xg.drop (i*((T-F)*I))).take ((T-F)*I)).length=(T-F)*I:=by simp;omega
 have r:(P-i)*(qab*I)=qab*I+(P-(i+1))*(qab*I):=by rw[show P-i=(P-(i+1))+1 from Y,f7,vd]
 have b:ue I F T qab xg i=List.replicate (F*I) 0++(xg.drop (i*((T-F)*I))).take ((T-F)*I)++List.replicate ((qab-T)*I) 0:=rfl;rw[over,m,ph,ph,iK,nK];simp only[mu,List.flatMap_nil,ev];rw[b];generalize(xg.drop (i*((T-F)*I))).take ((T-F)*I)=L at*;generalize(List.range i).flatMap (ue I F T qab xg)=K at*;rw[sH,List.drop_append,e,bV Y,eU Y,jN,r,
  show i*(qab*I)+F*I-i*(qab*I)=F*I from Y,show i*(qab*I)+F*I+(T-F)*I-i*(qab*I)=F*I+(T-F)*I from Y,List.take_replicate,List.drop_replicate,
  d5 Y,show qab*I+(P-(i+1))*(qab*I)-(F*I+(T-F)*I)=(qab-T)*I+(P-(i+1))*(qab*I)from Y,<-List.replicate_append_replicate]
 simp
def SY:ph P I F T qab xg 0=List.replicate (P*(qab*I)) 0:=by simp[ph]
end
def NX(t:TypeId)(ht:P.underlying t=some (.slice (P.elem t)))(hs:(P.info? (P.elem t)).map (·.size)=some 1)(g n k:Nat)(i:Int)(hi:i=(k:Int))(j:k<n):
  ∀w,(Instr.slice t (g,n,n) (some (.int .i64 i)) none none).run P w=.ok (.slice (some ⟨g,k,none⟩) (n-k) (n-k)) w:=by
 subst hi;intro w;rw[dB w t _ n n ht .i64 k Y Y,e1 hs];have b:n≠k:=Y;by_cases e:k=0;subst e;simp[Result.andThen,sliced,Addr.add,b];simp[Result.andThen,sliced,Addr.add,b,e]
section
variable{w:World}{n:Nat}{ts:List Int}
def abg[Sl w A n zs][Sl w B m xs][Le m d](Q:n<=1000000){S X:au}(F:Z (gL zs xs side x y=z))(hS:Z (JJ zs xs side x y=S))(G:Z (Hs zs xs side x y=X)):
  () 163 #[.agg #[(A,n,c),(B,m,d)],side,x,y] w (dM w S X z):=by
 have T:=@az;have V:=@aP;go_in;go_wp2_with (go_at_call 178;refine(Qz Y F hS G).mono ?_;rintro e u ⟨b,c',j,d',rfl,I,K,L,M,fA,E,_⟩);have N:Bx u (w.1.size+1) 28 #[(),()]:=am;have O:=N.ak.bP (.slice b S c') (.slice j X d');have P:=bA (aO w u) (p:=w.1.size+1) Y (.slice b S c') (.slice j X d');have l:=I.bH fA (Bx.ak (g:=w.1.size+1)).lt (.slice b S c') (.slice j X d');have r:=K.bH E (Bx.ak (g:=w.1.size+1)).lt (.slice b S c') (.slice j X d');obtain⟨r0,r1⟩:=bM O;exact aZ (v:=.tuple #[.agg #[.slice b S c',.slice j X d'],z]) (by simp[results,results163,go_sem,r0,r1]) rfl<|⟨b,c',j,d',rfl,l,r,L,M,fA.less ai,E.less ai,⟨P⟩⟩
def zF9(h:Γ:=by go_wp2_with fail;go_round;exact⟨k+1,Y,by go_num,by rw[take_at DX.o,jr]⟩;exact zF6):=h
theorem zm{V:au}[a:Sl w A n zs][b:Sl w B m xs][Sl w C R V][b':Sl w D m' ys][ld':Le m' d'](hn:n<=1000000)(HU:R<=1000000){P qab F T:Nat}(hr:aw zs xs=true)(l:Z (JW j P I qab zs))(Ni:F<T)(Hq:T<=qab)(hV:Z (V=zs.set j ((T:Int)-F)))(Kj:aw V ys=true){X:au}(hX:Z (X=ph P I F T qab ys P)):
  () 112 #[.agg #[(A,n,c),(B,m,d)],.agg #[(C,R,c'),(D,m',d')],j,F,T] w (dM w zs X 0):=by
 obtain⟨CB,CP,FB⟩:=gW;obtain⟨r1,r4,q9,-⟩:=(ba zs).1 l.o.right;have hrV:=((aS _ _).1 Kj).1;obtain⟨v1,v4,vin,-⟩:=(ba V).1 hrV;have nD:=l.o.lt;have W7:V.length=zs.length:=by rw[hV.o,ei]
 have jY:=l.o.cells hr;have agq:=l.o.small;have Ee:=l.o.p1;have Sh:=l.o.i1;have hdV:V.drop (j+1)=zs.drop (j+1):=by rw[hV.o,List.drop_set_of_lt Y]
 have hpV:aB (V.drop (j+1))=(I:Int):=by rw[hdV,l.o.behind]
 have M:V[j]?=some (((T-F:Nat):Int)):=by rw[hV.o,jK nD];congr 1;omega
 have G:aB (V.take j)=(P:Int):=by rw[hV.o,sG (al _),l.o.ahead]
 have vi:ys=P*((T-F)*I):=by have h1:=((aS _ _).1 Kj).2;rw[iq M,hpV,G,<-cH,<-cH]at h1;omega
 have HC:Z (gz zs j (F:Int) (T:Int)=0):=U (by
  have hg:zs.getD j 0=(qab:Int):=by rw[a5,l.o.at_];rfl
  rw[gz,ah l.o.right,ah];rw[a9,hg];simp only[bU,b9];omega)
 have NY:Z (hH zs j (F:Int) (T:Int)=V):=U (by rw[hH,ah HC.o,a9,<-hV.o]);have VIN:Z (cj (V.drop (j+1))=true):=oB vin _;obtain⟨aa,hR⟩:=lh (qab*I);obtain⟨y,J⟩:=lh ((T-F)*I);obtain⟨E,hR3⟩:=lh (F*I);have acf:=HQ (I:=I) (eW Ni) Hq;have agr:1<=y:=by rw[<-J];exact kY Y Sh
 have hle:E+y<=aa:=by rw[J,hR3,hR]at acf;omega
 have hR6:aa<=65536:=by have h3:1*(qab*I)<=P*(qab*I):=cV _ Ee;omega
 have hI6:I<=65536:=by have h3:1*I<=qab*I:=cV _ l.o.z1;omega
 have hP6:P<=65536:=by have h3:P*1<=P*(qab*I):=fS _ ay;omega
 have hZ6:qab<=65536:=by have h3:qab*1<=qab*I:=fS _ Sh;omega
 have m1:(qab:Int)*(I:Int)=(aa:Int):=by rw[<-hR,cH]
 have m2:((T:Int)-(F:Int))*(I:Int)=(y:Int):=by rw[<-J,cH];congr 1;omega
 have m3:(F:Int)*(I:Int)=(E:Int):=by rw[<-hR3,cH]
 have hxR:xs.length=P*aa:=by rw[jY,hR]
 have hyR:ys=P*y:=by rw[vi,J]
 have NV:0<xs.length:=by rw[hxR];exact kY Ee Y
 have m4:(xs.length:Int)/(aa:Int)=(P:Int):=by rw[hxR,cH];exact Int.mul_ediv_cancel _ Y
 have HZ:=U l.o.at_;have HS:=U hxR;have HYR:=U hyR;have HR:=U hR;have xl:=U J;have HR3:=U hR3;have Bm:xs.length<=65536:=Y;have hy6:ys.length<=65536:=by have:=(gO Kj).1;exact this
 have W8:=U hpV;have zi:=U W7;have hm:m<=65536:=by rwa[b.len]
 obtain⟨b,rfl⟩:=b;have b:Sl w B xs xs:=⟨b,rfl⟩;obtain⟨a,rfl⟩:=a;have a:Sl w A zs zs:=⟨a,rfl⟩;obtain⟨b',rfl⟩:=b';have b':Sl w D ys ys:=⟨b',rfl⟩;obtain⟨bz,oz,z,rfl,obz,cz,e6⟩:=a.get nD;obtain rfl:z=(qab:Int):=by have h1:=e6.o;rw[HZ.o]at h1;injection h1 with h1;exact h1.symm
 clear q9 vin W7 jY hdV hpV M G vi hR J hR3 acf hxR hyR e6 HZ r1 v1 hrV;go_in;go_upto_region 8 with(first|(go_at_call 69;refine(bK Y).mono ?_;rintro e u ⟨rfl,_⟩)|(go_at_call 129;refine(Qy Y HC NY).mono ?_;rintro e u ⟨A',c',rfl,sJ,lJ,fJ,_⟩)|(go_at_call 70;refine(kI Y Y).mono ?_;rintro e u ⟨rfl,_⟩));obtain⟨N,rfl⟩:=lg u;have sJ2:Sl N A' V V:=am;obtain⟨AV,kE,JI⟩:=nV (P:=prog) 25 ap ap A' V.length c' (j+1) ((j:Int)+1) aI (by rwa[zi.o]) lJ.le;have sV:Sl N AV (V.length-(j+1)) (V.drop (j+1)):=⟨JI N V rfl sJ2.rd,aI⟩;clear JI hr Kj;go_wp2_with fail;refine(gX Y Y).mono ?_;rintro e w1 ⟨g,r,rfl,hg,y7,oS,oX,xo⟩;have vj:=λty=>hZ (P:=prog) 26 65 ty underlying26 ap (oX.alloc (.cells #[.slice g zs zs.length,.slice r xs xs.length] 28)) NV xs.length;have n1:g≠r:=oS.aF (cs:=ints xs) oX ao;have n2:w1≠r:=by have:=oX.lt;omega
 have O:=fE (bs:=[r]) (g:=r) aI (List.replicate xs.length an) 0 (hU.refl [r] (w1.alloc (.cells #[.slice g zs zs.length,.slice r xs xs.length] 28)));have BK:=(oX.alloc (.cells #[.slice g zs zs.length,.slice r xs xs.length] 28)).clear;have vL:=O.own (oS.alloc (.cells #[.slice g zs zs.length,.slice r xs xs.length] 28)) (by simpa using n1);have Q:=O.ak (aA.new w1 28 #[.slice g zs zs.length,.slice r xs xs.length]) (by simpa using n2);have pW:aj _ N:=⟨dH (n:=N.1.size) (g:=r) y7 (List.replicate xs.length an) 0 (aO N (w1.alloc (.cells #[.slice g zs zs.length,.slice r xs xs.length] 28)))⟩;obtain⟨W,hW⟩:=lg ((w1.alloc (.cells #[.slice g zs zs.length,.slice r xs xs.length] 28)).setCells r 0 (List.replicate xs.length an));rw[<-hW]at BK vL Q pW;replace Q:Bx W w1.1.size 28 #[.slice g zs zs.length,.slice r xs xs.length]:=⟨Q⟩;go_wp2_with fail;rw[<-hW];clear vj kE hW O;go_loop [15,58] (λp i=>∃k:Nat,k<=V-(j+1)/\i=.int .i64 k/\p=.int .i64 (aB ((V.drop (j+1)).take k))) (λ_ i=>V.length-(j+1)-(intOf i).toNat);exact⟨0,aR _,rfl,rfl⟩;obtain⟨k,hk,rfl,rfl⟩:=hrel;obtain⟨qX,rE⟩:=mz (V.drop (j+1)) VIN ch k;by_cases bD:k<V-(j+1);obtain⟨b1,off,z,rfl,mM,hc,DX⟩:=sV.get bD;obtain⟨gu,jR⟩:=dI VIN DX.o;obtain⟨lz,vC⟩:=l9 qX rE gu jR;exact zF9;have xa:aB ((V.drop (j+1)).take k)=(I:Int):=by rw[bV (by simp;omega),W8.o]
 rw[xa];clear qX rE xa;go_wp2_with fail;go_loopw [83] (λi wr=>∃ab:Nat,ab<=P/\i=.int .i64 ab/\Own wr r 65 (ph P I F T qab ys ab)/\Own wr g 3 zs/\Bx wr w1.1.size 28 #[.slice g zs zs.length,.slice r xs xs.length]/\aj wr N) (λi _=>P-(intOf i).toNat);exact⟨0,aR _,rfl,by rw[SY,HR.o,<-HS.o];exact BK,vL,Q,pW⟩;clear BK vL Q pW m4;obtain⟨ab,hj,rfl,hO,hS,hB,hp⟩:=hrel;by_cases S:ab<P
 .obtain⟨S1,hS1⟩:=lh (ab*aa);obtain⟨S2,L⟩:=lh (ab*y);(have g1:S1+aa<=xs.length:=by rw[HS.o,<-hS1,<-f7];exact cV _ S);(have g2:S2+y<=ys:=by rw[HYR.o,<-L,<-f7];exact cV _ S);(have m5:(ab:Int)*(aa:Int)=(S1:Int):=by rw[<-hS1,cH]);(have m6:(ab:Int)*(y:Int)=(S2:Int):=by rw[<-L,cH]);(have m7:((ab:Int)+1)*(y:Int)=(S2:Int)+y:=by rw[l0,m6,uX]);have ab0:=NX (P:=prog) 26 ap ap r xs.length (S1+E) ((S1:Int)+(E:Int)) aI Y;obtain⟨A3,W9,Xa⟩:=rq (P:=prog) 26 ap ap D ys.length d' S2 (S2+y) (S2:Int) ((S2:Int)+y) Y Y Y Y ld'.le;rw[uN]at W9 Xa;have l3:((ys.drop S2).take y).length=y:=by simp;omega
  have Q3:=Xa w ys rfl b'.rd;obtain⟨b3,o3,_,rfl,SZ,-,-⟩:=Sl.get (⟨Q3,l3.symm⟩:Sl w A3 y _) (k:=0) Y;have S0:Z (over (ph P I F T qab ys ab) ((ys.drop S2).take y) (S1+E)=ph P I F T qab ys (ab+1)):=U (by
   have:=SX (P:=P) (I:=I) (F:=F) (T:=T) (qab:=qab) (xg:=ys) (i:=ab) (eW Ni) Hq S (by rwa[xl.o,f7,L]);rw[xl.o,HR.o,HR3.o,hS1,L]at this;exact this)
  have HCL:Z ((ph P I F T qab ys ab).length=xs):=U (by
   rw[rD (eW Ni) Hq hj (by rw[xl.o,L];omega),HR.o,HS.o])
  have aeD:Z (((ys.drop S2).take y).length=Nat.min y (xs.length-(S1+E))):=U (by rw[l3];exact(d5 Y).symm);have aeE:Z (S1+E+((ys.drop S2).take y).length<=(ph P I F T qab ys ab).length):=U (by rw[l3,HCL.o];omega);clear l3 Xa hS1 L;go_wp2_with fail;have y1:IntKind.i64.wrap (S1:Int)=(S1:Int):=hC _ Y;have y2:IntKind.i64.wrap (E:Int)=(E:Int):=hC _ Y;have y3:IntKind.i64.wrap ((S1:Int)+(E:Int))=(S1:Int)+(E:Int):=hC _ Y;have y4:IntKind.i64.wrap (S2:Int)=(S2:Int):=hC _ Y;have y5:IntKind.i64.wrap ((ab:Int)+1)=(ab:Int)+1:=hC _ Y;have y6:IntKind.i64.wrap ((S2:Int)+(y:Int))=(S2:Int)+(y:Int):=hC _ Y;refine aU N (λw9=>Bx w9 w1.1.size 28 #[.slice g zs zs.length,.slice r xs xs.length]) ap am (λvx _=>?_);refine br 0 ?_;refine br 1 ?_;refine br 2 ?_;refine br 3 ?_;refine br 4 ?_;refine br 5 ?_;refine br 6 ?_;refine br 7 ?_;refine br 8 ?_;refine br 9 ?_;refine br 10 ?_;refine br 11 ?_;refine br 12 ?_;refine br 13 ?_;refine br 14 ?_;refine br 15 ?_;refine br 16 ?_;refine br 17 ?_;refine br 18 ?_;refine br 19 ?_;refine aJ 20 λK hK=>?_;have rj:=λty=>fH (P:=prog) 26 26 ty 65 underlying26 ap (hO.at (w':=vx)) (o:=S1+E) (dLen:=xs.length-(S1+E)) (dCap:=xs.length-(S1+E)) (sLen:=y) (sCap:=d'-S2) (Q3.at (w':=vx)) aeD aeE;go_simp;refine q8 hK (λ_=>?_) ⟨⟨below_setRow (aO N vx) y7 _⟩,⟨(me _ _ _ _ n2).trans (Bx.ak (w:=vx))⟩⟩;clear hK K rj;refine a8 ?_;clear y1 y2 y3 y4 y5 y6;go_wp2_with fail;go_roundw;have o2:=(hO.at (w':=vx)).setRow (over (ph P I F T qab ys ab) ((ys.drop S2).take y) (S1+E));rw[S0.o]at o2;refine⟨ab+1,Y,by go_num,?_,(me _ _ _ _ n1).trans (hS.at (w':=vx)),⟨(me _ _ _ _ n2).trans (Bx.ak (w:=vx))⟩,⟨below_setRow (aO N vx) y7 _⟩⟩;rw[S0.o];exact o2;exact zF6
 obtain rfl:ab=P:=Y;have kR:Bx wr (w.1.size+1+1) 28 #[(),()]:=am;have l1:=hS.aF kR.ak ao;have l2:=hO.aF kR.ak ao;have hXl:X.length=xs.length:=by rw[hX.o,rD (eW Ni) Hq (al _) (by rw[xl.o,<-HYR.o];exact al _),HR.o,HS.o]
 have oI:=U hXl;clear hXl;go_wp2_with fail;have k3:=kR.ak.bP (.slice g zs zs.length) (.slice r xs xs.length);have B3:=bA (aO w wr) (p:=w.1.size+1+1) Y (.slice g zs zs.length) (.slice r xs xs.length);have o3:=hS.bH l1 (.slice g zs zs.length) (.slice r xs xs.length);have o4:=hO.bH l2 (.slice g zs zs.length) (.slice r xs xs.length);obtain⟨r0,r1⟩:=bM k3;refine aZ (v:=.tuple #[.agg #[.slice g zs zs.length,.slice r xs xs.length],an]) (by simp[results,results112,go_sem,r0,r1]) rfl ?_;have Km:=ai (w:=w) (w':=N);exact⟨_,_,_,_,by rw[oI.o],⟨o3.rd,rfl⟩,⟨by rw[hX.o];exact o4.rd,rfl⟩,⟨al _⟩,⟨by rw[oI.o];exact al _⟩,⟨λad e=>by cases e;exact aQ Km hg⟩,⟨λad e=>by cases e;exact aQ Km y7⟩,⟨B3⟩⟩
end
end
variable{I l:Nat}
section
variable{w:World}{n:Nat}{ts:List Int}
def HR[a:Ts w A n us][Le n c](hn:n<=1000000)(hz:Z (∀t∈us,t.zs.length<=1000000)){P:Nat}{S X:au}(hE:Z (zd j us=0))(r:Z (JW j P I l S))(hS:Z (S=vD j us))(hX:Z (X=p7 P us P))
  (hP:Z (P*dC P us<=65536)) (K:Z (∀t∈us,P*(t.xs.length/P)=t.xs.length/\t.xs.length<=65536)):
  () 162 #[j,(A,n,c)] w (dM w S X 0):=by
 obtain⟨CB,CP,FB⟩:=gW;obtain⟨r1,r4,q9,rpr⟩:=(ba S).1 r.o.right;have RIN:=U q9;have nD:=r.o.lt;obtain⟨N,hN,-,hN6⟩:=cG r.o.right;have vM:Z (bG S=(N:Int)):=U (by rw[bG,ah r.o.right,hN]);have HSE:Z (cB S=0):=U (by rw[cB,ah r.o.right]);have hS':Z (S=if(0:Int)=0 then vD j us else[]):=U (by rwa[ah rfl]);have Ee:=r.o.p1;have hP6:P<=65536:=by have h1:=r.o.small;have h2:1*1<=l*I:=ve r.o.z1 r.o.i1;have h3:P*1<=P*(l*I):=fS _ Y;omega
 clear q9 rpr hN;go_in;go_upto_region 8 with(first|(go_at_call 177;refine(BL Y hz hE hS').mono ?_;rintro e u ⟨F,c',rfl,sA,lA,fA,_⟩)|(go_at_call 73;refine(h5 Y vM HSE).mono ?_;rintro e u ⟨rfl,_⟩));obtain⟨AS,kE,JI⟩:=Sd (P:=prog) 25 ap ap F S.length c' j (j:Int) rfl Y lA.le;have sP:Sl u AS j (S.take j):=⟨JI u S rfl (am:Sl u F S S).rd,by simp;omega⟩;have M:Z (cj (S.take j)=true):=ov RIN _;clear JI;go_wp2_with fail;clear kE;go_loop [9,40] (λp i=>∃k:Nat,k<=j/\i=.int .i64 k/\p=.int .i64 (aB ((S.take j).take k))) (λ_ i=>j-(intOf i).toNat);exact⟨0,aR _,rfl,rfl⟩;obtain⟨k,hk,rfl,rfl⟩:=hrel;obtain⟨qX,G⟩:=mz (S.take j) M ch k;by_cases bD:k<j;obtain⟨b,off,z,rfl,ob,hc,DX⟩:=sP.get bD;obtain⟨gu,jR⟩:=dI M DX.o;obtain⟨lz,vC⟩:=l9 qX G gu jR;exact zF9;have xa:aB ((S.take j).take k)=(P:Int):=by rw[bV (by simp;omega),r.o.ahead]
 rw[xa];clear qX G xa;have jF:=λW=>oL (P:=prog) 26 65 underlying26 ap N Y W;go_wp2_with fail;clear jF;go_loopw [12,51] (λv i wr=>∃(aa:Nat) (y:bz) (c2:Nat) (L:au),aa<=P/\i=.int .i64 aa/\v=.slice y L c2/\aD wr u.1.size 65 y c2 L/\Z (L=p7 P us aa)/\aj wr u) (λ_ i _=>P-(intOf i).toNat);exact⟨0,_,_,[],aR _,rfl,rfl,xb _ _ _ Y,U rfl,aC⟩;obtain⟨aa,y,c2,L,hj,rfl,rfl,O,T,hp⟩:=hrel;by_cases Q:aa<P
 .obtain⟨wo,rfl⟩:=lg wr;go_wp2_with fail;go_loopw [12,56] (λv i wr=>∃(m:Nat) (y:bz) (c2:Nat) (L:au),m<=n/\i=.int .i64 m/\v=.slice y L c2/\aD wr u.1.size 65 y c2 L/\Z (L=p7 P us aa++e9 P aa us m)/\aj wr u) (λ_ i _=>n-(intOf i).toNat);exact⟨0,y,c2,L,aR _,rfl,rfl,O,U (by rw[T.o];simp[e9]),hp⟩;clear O T;obtain⟨m,y,c2,L,hm,rfl,rfl,O,T,G⟩:=hrel;by_cases aeF:m<n
  .obtain⟨b,o,A1,c1,z1,B1,d1,x1,rfl,ob,q0,q1,s1,t1,Ev,i1,ht⟩:=a.get aeF;obtain⟨ab,hR⟩:=lh (x1.length/P);(have jY:x1.length=P*ab:=by have:=(K.o _ (aK ht.o)).1;simp only at this;rw[<-hR];exact this.symm);obtain⟨S1,J⟩:=lh (aa*ab);(have g1:S1+ab<=x1.length:=by rw[jY,<-J,<-f7];exact cV _ Q);(have m1:(aa:Int)*(ab:Int)=(S1:Int):=by rw[<-J,cH]);(have m3:((aa:Int)+1)*(ab:Int)=(S1:Int)+ab:=by rw[l0,m1,uX]);(have m5:(x1.length:Int)/(P:Int)=(ab:Int):=by rw[<-hR,Aa]);(have BI:L.length<=131072:=by have h1:=Wn P us aa;have h2:=yB P aa us m;have h3:(aa+1)*dC P us<=P*dC P us:=cV _ Q;have h4:=hP.o;rw[f7]at h3;rw[T.o,bh];omega);have Bm:x1.length<=65536:=(K.o _ (aK ht.o)).2;obtain⟨A3,W9,E⟩:=rq (P:=prog) 26 ap ap B1 x1.length d1 S1 (S1+ab) (S1:Int) ((S1:Int)+ab) Y Y Y Y Ev;rw[uN]at W9 E;(have l3:((x1.drop S1).take ab).length=ab:=by simp;omega);have Xb:Z (p6 P aa x1=(x1.drop S1).take ab):=U (by rw[p6,hR,J]);have Q3:=E _ x1 rfl t1.rd;clear E jY J hR;go_wp2_with (at_builtin;refine qM rfl (.tmp 65) (.tmp 75) 26 rfl 65 underlying26 ap u.1.size y c2 L rfl (O.alloc _) A3 ab _ ((x1.drop S1).take ab) l3 rfl Q3.at Y (ai (w:=u)) ?_;intro A5 c5 w5 ho5 w8 aeG ags;obtain⟨L5,V⟩:∃L5,L++(x1.drop S1).take ab=L5:=⟨_,rfl⟩;rw[V]at ho5⊢;have HL5:=U V;clear V aeG);have p5:aj w5 u:=⟨(aO u _).trans w8⟩;go_roundw;exact⟨m+1,A5,c5,L5,Y,by go_num,rfl,ho5,U (by rw[<-HL5.o,T.o,Hr ht.o,<-Xb.o,hM]),p5⟩;exact zF6
  have HN:Z (m=us):=U (by rw[<-a.len];omega);go_wp2_with fail;go_roundw;exact⟨aa+1,y,c2,L,Y,by go_num,rfl,O,U (by rw[T.o,xe,HN.o]),G⟩;exact zF6
 obtain rfl:L=X:=by rw[hX.o,T.o,show aa=P from Y]
 have kR:Bx wr w.1.size 28 #[(),()]:=am;have sX:Sl wr y L L:=⟨O.rd,rfl⟩;have fX:=O.fre;have sS:Sl wr F S S:=am;go_wp2_with fail;have k3:=kR.ak.bP (.slice F S c') (.slice y L c2);have B3:=bA (aO w wr) (p:=w.1.size) (al _) (.slice F S c') (.slice y L c2);have sS2:=sS.bH fA (Bx.ak (g:=w.1.size)).lt (.slice F S c') (.slice y L c2);have mg:=sX.bH fX (Bx.ak (g:=w.1.size)).lt (.slice F S c') (.slice y L c2);obtain⟨r0,r1⟩:=bM k3;exact aZ (v:=.tuple #[.agg #[.slice F S c',.slice y L c2],an]) (by simp[results,results162,go_sem,r0,r1]) rfl<|⟨F,c',y,c2,rfl,sS2,mg,lA,⟨O.hD⟩,fA.less ai,fX.less ai,⟨B3⟩⟩
end
