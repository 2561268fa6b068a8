/- Lemmas. No condition. -/
import Derived.Test.YtmkjnlifimffkaaGreatS16
namespace Go.Proofs.YtmkjnlifimffkaaGreat
open Go.RowKit
set_option linter.all false
set_option maxRecDepth 100000
set_option maxHeartbeats 16000000
section
def xH(zs xs:List Int):Bool:=bH zs xs&&decide (zs.length=2)
theorem ai3(A B:Option Addr)(c d:Nat)(zs xs:List Int)(w:World)(m:zs.length<=1000000)(h:Rd w A zs):
  Calls Tryz.prog 214 #[.agg #[.slice A zs.length c,.slice B xs.length d]] w (xk w (.bool (xH zs xs))):=by
 have b:=(bq w.heap.size w).alloc (az _) (.cells #[.slice A zs.length c,.slice B xs.length d] 28);have k1:=aD.new w 28 #[.slice A zs.length c,.slice B xs.length d];rcases hr:bH zs xs with _|_
 ·have j:=ae hr;have l:Hid (xH zs xs=false):=ae (by simp[xH,hr]);clear hr;go_enter Tryz.func214,Tryz.ntmps214
  go_wp2_with fail
  refine(vU A B c d zs xs _ m (h.below b)).mono ?_;rintro e r ⟨rfl,hb⟩;rw[j.out]
  go_wp2_with fail
  go_ret;exact⟨jD l.out.symm,dS b hb⟩
 ·have j:=ae hr;have l:Hid (xH zs xs=((zs.length:Int)==2)):=ae (by rw[xH,hr,PS,H9];simp;omega);clear hr;go_enter Tryz.func214,Tryz.ntmps214
  go_wp2_with fail
  refine(vU A B c d zs xs _ m (h.below b)).mono ?_;rintro e r ⟨rfl,hb⟩;rw[j.out];replace k1:=k1.keep hb;replace b:=dS b hb;clear hb;obtain⟨q0,u⟩:=fC k1
  go_wp2_with fail
  go_ret;exact⟨jD l.out.symm,b⟩
theorem ai4{P:Program}(t:TypeId)(ht:P.underlying t=some (.slice (P.elem t)))(hs:(P.info? (P.elem t)).map (·.size)=some 1)(b off l c k m:Nat)(i j:Int)(hi:i=(k:Int))(r:j=(m:Int))(u:k<m)(hm:m<=c)(w:World):
  (Instr.slice t (.slice (some ⟨b,off,none⟩) l c) (some (.int .i64 i)) (some (.int .i64 j)) (some (.int .i64 j))).run P w=.ok (.slice (some ⟨b,off+k,none⟩) (m-k) (m-k)) w:=by
 subst hi r;rw[LY w t (some ⟨b,off,none⟩) l c ht .i64 .i64 .i64 k m m om om om om,DL hs];have:¬m=k:=om;by_cases e:k=0
 ·subst e;simp[Result.andThen,sliced,this,Addr.add]
 ·simp[Result.andThen,sliced,this,Addr.add,e]
theorem ai5(A:Option Addr)(b off c d M N i S:Nat)(xs:List Int)(w:World)(hd:xs.length<=d)(B:M<=1024)(hN:N<=1024)(m:1<=N)(r:Hid (xs.length=M*N))(u:xs.length<=65536)(hi:i<M)(hS:Hid (i*N=S))(h:Rd w A [(M:Int),(N:Int)]):
  Calls Tryz.prog 169 #[.agg #[.slice A 2 c,.slice (some ⟨b,off,none⟩) xs.length d],i] w fun e w'=>e=.returned (.slice (some ⟨b,off+S,none⟩) N N)/\w'=w.alloc (.cells #[.slice A 2 c,.slice (some ⟨b,off,none⟩) xs.length d] 28):=by
 obtain⟨C,oa,rfl,y,z⟩:=(h.alloc (.cells #[.slice A 2 c,.slice (some ⟨b,off,none⟩) xs.length d] 28)) 1 (N:Int) rfl;have l:S+N<=xs.length:=by rw[r.out,<-hS.out,<-Bl];exact qV _ hi
 have m1:(i:Int)*(N:Int)=(S:Int):=by rw[<-hS.out,yx]
 have D:((i:Int)+1)*(N:Int)=(S:Int)+N:=by rw[xh,m1,LA]
 have j:=ai4 (P:=Tryz.prog) 26 aj aj b off xs.length d S (S+N) (S:Int) ((S:Int)+N) rfl om om om;rw[Wu]at j;go_enter Tryz.func169,Tryz.ntmps169
 go_wp2_with fail
 go_ret;exact⟨rfl,rfl⟩
end
theorem RB(A B:Option Addr)(c d:Nat)(xs ys:List Int)(w:World)(hs:xs.length<=1000000)(b:ys.length<=1000000)(h:Rd w A xs)(e:Rd w B ys):
  Calls Tryz.prog 70 #[.slice A xs.length c,.slice B ys.length d] w (xk w (.bool (decide (xs=ys)))):=
 (Ql A B c d xs ys w hs b h e).mono fun _ _ ⟨j,m,hm⟩=>⟨j,by rw[hm];exact below_drewN (bq _ _) m⟩
section
def mM(zs xs ts ys us vs:List Int):Bool:=xH zs xs&&bH ts ys&&bH us vs&&decide (ts=[zs.getD 0 0])&&decide ((vs.length:Int)=zs.getD 1 0)
theorem Zg(A B C D E F:Option Addr)(c d c' d' r u:Nat)(zs xs ts ys us vs:List Int)(w:World)(hzl:zs.length<=1000000)(O:ts.length<=1000000)(rF:us.length<=1000000)(G:Rd w A zs)(L:Rd w C ts)(T:Rd w E us):
  Calls Tryz.prog 168 #[.agg #[.slice A zs.length c,.slice B xs.length d],.agg #[.slice C ts.length c',.slice D ys.length d'],.agg #[.slice E us.length r,.slice F vs.length u]] w (xk w (.bool (mM zs xs ts ys us vs))):=by
 have M:=(((bq w.heap.size w).alloc (az _) (.cells #[.slice A zs.length c,.slice B xs.length d] 28)).alloc au (.cells #[.slice C ts.length c',.slice D ys.length d'] 28)).alloc bD (.cells #[.slice E us.length r,.slice F vs.length u] 28);have k1:=((aD.new w 28 #[.slice A zs.length c,.slice B xs.length d]).alloc (.cells #[.slice C ts.length c',.slice D ys.length d'] 28)).alloc (.cells #[.slice E us.length r,.slice F vs.length u] 28);have k2:=(aD.new' (w.alloc (.cells #[.slice A zs.length c,.slice B xs.length d] 28)) 28 #[.slice C ts.length c',.slice D ys.length d'] (n:=w.heap.size+1) au).alloc (.cells #[.slice E us.length r,.slice F vs.length u] 28);have P:=aD.new' ((w.alloc (.cells #[.slice A zs.length c,.slice B xs.length d] 28)).alloc (.cells #[.slice C ts.length c',.slice D ys.length d'] 28)) 28 #[.slice E us.length r,.slice F vs.length u] (n:=w.heap.size+1+1) au;replace G:=G.below M;replace L:=L.below M;replace T:=T.below M;have y:=ae fun(w':World) (h:Rd w' A zs)=>ai3 A B c d zs xs w' hzl h;have N:=ae fun(w':World) (h:Rd w' C ts)=>vU C D c' d' ts ys w' O h;have Q:=ae fun(w':World) (h:Rd w' E us)=>vU E F r u us vs w' rF h;rcases q1:xH zs xs with _|_
 ·rw[q1]at y;have I:Hid (mM zs xs ts ys us vs=false):=ae (by simp[mM,q1]);clear q1;go_enter Tryz.func168,Tryz.ntmps168
  go_wp2_with fail
  generalize((w.alloc (.cells #[.slice A zs.length c,.slice B xs.length d] 28)).alloc (.cells #[.slice C ts.length c',.slice D ys.length d'] 28)).alloc (.cells #[.slice E us.length r,.slice F vs.length u] 28)=W0 at*;have l:Hid (∀w':World,Below (W0).heap.size (W0) w'->Below (W0).heap.size (W0) w'/\w'.cell? ⟨w.heap.size,0,none⟩=some (.slice A zs.length c)/\w'.cell? ⟨w.heap.size,1,none⟩=some (.slice B xs.length d)):=ae (fun w' j=>⟨j,(k1.keep j).cell 0,(k1.keep j).cell 1⟩);refine wp_region_held_drew (S:=fun w'=>Below (W0).heap.size (W0) w'/\w'.cell? ⟨w.heap.size,0,none⟩=some (.slice A zs.length c)/\w'.cell? ⟨w.heap.size,1,none⟩=some (.slice B xs.length d)) aj (l.out _ (bq _ _).drew) (fun hHeld=>?_);have b:Below (W0).heap.size (W0) (W0).drew:=(bq _ _).drew;refine oA 0 7 ?_;refine ay 1 fun K hK=>?_;go_simp;refine(y.out _ (G.below b)).mono ?_;rintro e Z ⟨rfl,hb⟩;dsimp only;replace b:=dS b hb;clear hb;refine hK.out _ _ (l.out _ b) (fun hHeld=>?_);clear hK K
  try dsimp only[Act.put,List.setIfInBounds_toArray,List.set_cons_zero,List.set_cons_succ]
  refine oA 2 9 ?_;refine fA 3 10 ?_;refine fA 4 11 ?_;refine oA 5 12 ?_;refine oA 6 13 ?_;refine fA 7 14 ?_;refine fA 8 15 ?_;refine oA 9 16 ?_;refine oA 10 17 ?_;refine fA 11 18 ?_;refine fA 12 19 ?_;refine fA 13 20 ?_;refine fA 14 21 ?_;refine fA 15 22 ?_;refine fA 16 23 ?_;refine fA 17 24 ?_;refine fA 18 25 ?_;refine oA 19 26 ?_;refine oA 20 27 ?_;refine fA 21 28 ?_;refine fA 22 29 ?_;refine fA 23 30 ?_;refine fA 24 31 ?_;refine fA 25 32 ?_;refine fA 26 33 ?_;refine fA 27 34 ?_;refine fA 28 35 ?_;refine oA 29 36 ?_;refine oA 30 6 ?_;refine aO ?_
  go_wp2_with fail
  go_ret;exact⟨jD I.out.symm,dS M b⟩
 rcases q2:bH ts ys with _|_
 ·rw[q1]at y;rw[q2]at N;have I:Hid (mM zs xs ts ys us vs=false):=ae (by simp[mM,q2]);clear q1 q2;go_enter Tryz.func168,Tryz.ntmps168
  go_wp2_with fail
  generalize((w.alloc (.cells #[.slice A zs.length c,.slice B xs.length d] 28)).alloc (.cells #[.slice C ts.length c',.slice D ys.length d'] 28)).alloc (.cells #[.slice E us.length r,.slice F vs.length u] 28)=W0 at*;have l:Hid (∀w':World,Below (W0).heap.size (W0) w'->Below (W0).heap.size (W0) w'/\w'.cell? ⟨w.heap.size,0,none⟩=some (.slice A zs.length c)/\w'.cell? ⟨w.heap.size,1,none⟩=some (.slice B xs.length d)/\w'.cell? ⟨w.heap.size+1,0,none⟩=some (.slice C ts.length c')/\w'.cell? ⟨w.heap.size+1,1,none⟩=some (.slice D ys.length d')):=ae (fun w' j=>⟨j,(k1.keep j).cell 0,(k1.keep j).cell 1,(k2.keep j).cell 0,(k2.keep j).cell 1⟩);refine wp_region_held_drew (S:=fun w'=>Below (W0).heap.size (W0) w'/\w'.cell? ⟨w.heap.size,0,none⟩=some (.slice A zs.length c)/\w'.cell? ⟨w.heap.size,1,none⟩=some (.slice B xs.length d)/\w'.cell? ⟨w.heap.size+1,0,none⟩=some (.slice C ts.length c')/\w'.cell? ⟨w.heap.size+1,1,none⟩=some (.slice D ys.length d')) aj (l.out _ (bq _ _).drew) (fun hHeld=>?_);have b:Below (W0).heap.size (W0) (W0).drew:=(bq _ _).drew;refine oA 0 7 ?_;refine ay 1 fun K hK=>?_;go_simp;refine(y.out _ (G.below b)).mono ?_;rintro e Z ⟨rfl,hb⟩;dsimp only;replace b:=dS b hb;clear hb;refine hK.out _ _ (l.out _ b) (fun hHeld=>?_);clear hK K
  try dsimp only[Act.put,List.setIfInBounds_toArray,List.set_cons_zero,List.set_cons_succ]
  refine oA 2 9 ?_;refine oA 3 10 ?_;refine ay 4 fun K hK=>?_;go_simp;refine(N.out _ (L.below b)).mono ?_;rintro e w2 ⟨rfl,hb⟩;dsimp only;replace b:=dS b hb;clear hb;refine hK.out _ _ (l.out _ b) (fun hHeld=>?_);clear hK K
  try dsimp only[Act.put,List.setIfInBounds_toArray,List.set_cons_zero,List.set_cons_succ]
  refine oA 5 12 ?_;refine oA 6 13 ?_;refine fA 7 14 ?_;refine fA 8 15 ?_;refine oA 9 16 ?_;refine oA 10 17 ?_;refine fA 11 18 ?_;refine fA 12 19 ?_;refine fA 13 20 ?_;refine fA 14 21 ?_;refine fA 15 22 ?_;refine fA 16 23 ?_;refine fA 17 24 ?_;refine fA 18 25 ?_;refine oA 19 26 ?_;refine oA 20 27 ?_;refine fA 21 28 ?_;refine fA 22 29 ?_;refine fA 23 30 ?_;refine fA 24 31 ?_;refine fA 25 32 ?_;refine fA 26 33 ?_;refine fA 27 34 ?_;refine fA 28 35 ?_;refine oA 29 36 ?_;refine oA 30 6 ?_;refine aO ?_
  go_wp2_with fail
  go_ret;exact⟨jD I.out.symm,dS M b⟩
 rcases q3:bH us vs with _|_
 ·rw[q1]at y;rw[q2]at N;rw[q3]at Q;have I:Hid (mM zs xs ts ys us vs=false):=ae (by simp[mM,q3]);clear q1 q2 q3;go_enter Tryz.func168,Tryz.ntmps168
  go_wp2_with fail
  generalize((w.alloc (.cells #[.slice A zs.length c,.slice B xs.length d] 28)).alloc (.cells #[.slice C ts.length c',.slice D ys.length d'] 28)).alloc (.cells #[.slice E us.length r,.slice F vs.length u] 28)=W0 at*;have l:Hid (∀w':World,Below (W0).heap.size (W0) w'->Below (W0).heap.size (W0) w'/\w'.cell? ⟨w.heap.size,0,none⟩=some (.slice A zs.length c)/\w'.cell? ⟨w.heap.size,1,none⟩=some (.slice B xs.length d)/\w'.cell? ⟨w.heap.size+1,0,none⟩=some (.slice C ts.length c')/\w'.cell? ⟨w.heap.size+1,1,none⟩=some (.slice D ys.length d')/\w'.cell? ⟨w.heap.size+1+1,0,none⟩=some (.slice E us.length r)/\w'.cell? ⟨w.heap.size+1+1,1,none⟩=some (.slice F vs.length u)):=ae (fun w' j=>⟨j,(k1.keep j).cell 0,(k1.keep j).cell 1,(k2.keep j).cell 0,(k2.keep j).cell 1,(P.keep j).cell 0,(P.keep j).cell 1⟩);refine wp_region_held_drew (S:=fun w'=>Below (W0).heap.size (W0) w'/\w'.cell? ⟨w.heap.size,0,none⟩=some (.slice A zs.length c)/\w'.cell? ⟨w.heap.size,1,none⟩=some (.slice B xs.length d)/\w'.cell? ⟨w.heap.size+1,0,none⟩=some (.slice C ts.length c')/\w'.cell? ⟨w.heap.size+1,1,none⟩=some (.slice D ys.length d')/\w'.cell? ⟨w.heap.size+1+1,0,none⟩=some (.slice E us.length r)/\w'.cell? ⟨w.heap.size+1+1,1,none⟩=some (.slice F vs.length u)) aj (l.out _ (bq _ _).drew) (fun hHeld=>?_);have b:Below (W0).heap.size (W0) (W0).drew:=(bq _ _).drew;refine oA 0 7 ?_;refine ay 1 fun K hK=>?_;go_simp;refine(y.out _ (G.below b)).mono ?_;rintro e Z ⟨rfl,hb⟩;dsimp only;replace b:=dS b hb;clear hb;refine hK.out _ _ (l.out _ b) (fun hHeld=>?_);clear hK K
  try dsimp only[Act.put,List.setIfInBounds_toArray,List.set_cons_zero,List.set_cons_succ]
  refine oA 2 9 ?_;refine oA 3 10 ?_;refine ay 4 fun K hK=>?_;go_simp;refine(N.out _ (L.below b)).mono ?_;rintro e w2 ⟨rfl,hb⟩;dsimp only;replace b:=dS b hb;clear hb;refine hK.out _ _ (l.out _ b) (fun hHeld=>?_);clear hK K
  try dsimp only[Act.put,List.setIfInBounds_toArray,List.set_cons_zero,List.set_cons_succ]
  refine oA 5 12 ?_;refine oA 6 13 ?_;refine oA 7 14 ?_;refine ay 8 fun K hK=>?_;go_simp;refine(Q.out _ (T.below b)).mono ?_;rintro e w3 ⟨rfl,hb⟩;dsimp only;replace b:=dS b hb;clear hb;refine hK.out _ _ (l.out _ b) (fun hHeld=>?_);clear hK K
  try dsimp only[Act.put,List.setIfInBounds_toArray,List.set_cons_zero,List.set_cons_succ]
  refine oA 9 16 ?_;refine oA 10 17 ?_;refine fA 11 18 ?_;refine fA 12 19 ?_;refine fA 13 20 ?_;refine fA 14 21 ?_;refine fA 15 22 ?_;refine fA 16 23 ?_;refine fA 17 24 ?_;refine fA 18 25 ?_;refine oA 19 26 ?_;refine oA 20 27 ?_;refine fA 21 28 ?_;refine fA 22 29 ?_;refine fA 23 30 ?_;refine fA 24 31 ?_;refine fA 25 32 ?_;refine fA 26 33 ?_;refine fA 27 34 ?_;refine fA 28 35 ?_;refine oA 29 36 ?_;refine oA 30 6 ?_;refine aO ?_
  go_wp2_with fail
  go_ret;exact⟨jD I.out.symm,dS M b⟩
 have U:zs.length=2:=by simp[xH]at q1;exact q1.2
 obtain⟨z0,z1,rfl⟩:∃z0 z1,zs=[z0,z1]:=by
  match zs,U with
  |[z0,z1],_=>exact⟨z0,z1,rfl⟩
 obtain⟨m,oa,rfl,J,V⟩:=G 0 z0 rfl;have X:=G.all (k:=1) (z:=z1) rfl;clear U;by_cases R:ts=[z0]
 ·rw[q1]at y;rw[q2]at N;rw[q3]at Q;have I:Hid (mM [z0,z1] xs ts ys us vs=((vs.length:Int)==z1)):=ae (by rw[mM,q1,q2,q3,R,H9];simp);have Y:=ae fun(g:Nat) (w':World) (h:Rd w' C ts) (ho:Own w' g 3 [z0])=>RB C (some ⟨g,0,none⟩) c' 1 ts [z0] w' O au h ho.rd;rw[l8 R]at Y;clear q1 q2 q3 R;go_enter Tryz.func168,Tryz.ntmps168
  go_wp2_with fail
  generalize((w.alloc (.cells #[.slice (some ⟨m,oa,none⟩) 2 c,.slice B xs.length d] 28)).alloc (.cells #[.slice C ts.length c',.slice D ys.length d'] 28)).alloc (.cells #[.slice E us.length r,.slice F vs.length u] 28)=W0 at*;obtain⟨t0,t1⟩:W0.cell? ⟨m,oa,none⟩=some (.int .i64 z0)/\W0.cell? ⟨m,oa+1,none⟩=some (.int .i64 z1):=⟨V,X⟩;have l:Hid (∀w':World,Below (W0).heap.size (W0) w'->Below (W0).heap.size (W0) w'/\w'.cell? ⟨w.heap.size,0,none⟩=some (.slice (some ⟨m,oa,none⟩) 2 c)/\w'.cell? ⟨w.heap.size,1,none⟩=some (.slice B xs.length d)/\w'.cell? ⟨w.heap.size+1,0,none⟩=some (.slice C ts.length c')/\w'.cell? ⟨w.heap.size+1,1,none⟩=some (.slice D ys.length d')/\w'.cell? ⟨w.heap.size+1+1,0,none⟩=some (.slice E us.length r)/\w'.cell? ⟨w.heap.size+1+1,1,none⟩=some (.slice F vs.length u)/\w'.cell? ⟨m,oa,none⟩=some (.int .i64 z0)/\w'.cell? ⟨m,oa+1,none⟩=some (.int .i64 z1)):=ae (fun w' j=>⟨j,(k1.keep j).cell 0,(k1.keep j).cell 1,(k2.keep j).cell 0,(k2.keep j).cell 1,(P.keep j).cell 0,(P.keep j).cell 1,(j.cell (p:=⟨_,_,_⟩) J).trans t0,(j.cell (p:=⟨_,_,_⟩) J).trans t1⟩);refine wp_region_held_drew (S:=fun w'=>Below (W0).heap.size (W0) w'/\w'.cell? ⟨w.heap.size,0,none⟩=some (.slice (some ⟨m,oa,none⟩) 2 c)/\w'.cell? ⟨w.heap.size,1,none⟩=some (.slice B xs.length d)/\w'.cell? ⟨w.heap.size+1,0,none⟩=some (.slice C ts.length c')/\w'.cell? ⟨w.heap.size+1,1,none⟩=some (.slice D ys.length d')/\w'.cell? ⟨w.heap.size+1+1,0,none⟩=some (.slice E us.length r)/\w'.cell? ⟨w.heap.size+1+1,1,none⟩=some (.slice F vs.length u)/\w'.cell? ⟨m,oa,none⟩=some (.int .i64 z0)/\w'.cell? ⟨m,oa+1,none⟩=some (.int .i64 z1)) aj (l.out _ (bq _ _).drew) (fun hHeld=>?_);have b:Below (W0).heap.size (W0) (W0).drew:=(bq _ _).drew;refine oA 0 7 ?_;refine ay 1 fun K hK=>?_;go_simp;refine(y.out _ (G.below b)).mono ?_;rintro e Z ⟨rfl,hb⟩;dsimp only;replace b:=dS b hb;clear hb;refine hK.out _ _ (l.out _ b) (fun hHeld=>?_);clear hK K
  try dsimp only[Act.put,List.setIfInBounds_toArray,List.set_cons_zero,List.set_cons_succ]
  refine oA 2 9 ?_;refine oA 3 10 ?_;refine ay 4 fun K hK=>?_;go_simp;refine(N.out _ (L.below b)).mono ?_;rintro e w2 ⟨rfl,hb⟩;dsimp only;replace b:=dS b hb;clear hb;refine hK.out _ _ (l.out _ b) (fun hHeld=>?_);clear hK K
  try dsimp only[Act.put,List.setIfInBounds_toArray,List.set_cons_zero,List.set_cons_succ]
  refine oA 5 12 ?_;refine oA 6 13 ?_;refine oA 7 14 ?_;refine ay 8 fun K hK=>?_;go_simp;refine(Q.out _ (T.below b)).mono ?_;rintro e w3 ⟨rfl,hb⟩;dsimp only;replace b:=dS b hb;clear hb;refine hK.out _ _ (l.out _ b) (fun hHeld=>?_);clear hK K
  try dsimp only[Act.put,List.setIfInBounds_toArray,List.set_cons_zero,List.set_cons_succ]
  refine oA 9 16 ?_;refine oA 10 17 ?_;refine oA 11 18 ?_;refine oA 12 19 ?_;refine oA 13 20 ?_;refine oA 14 21 ?_;refine oA 15 22 ?_;refine oA 16 23 ?_;refine ay 17 fun K hK=>?_;go_simp;replace b:=b.alloc b.size (.cells #[.int .i64 z0] 3);refine hK.out _ _ (l.out _ b) (fun hHeld=>?_);clear hK K
  try dsimp only[Act.put,List.setIfInBounds_toArray,List.set_cons_zero,List.set_cons_succ]
  refine ay 18 fun K hK=>?_;go_simp;refine(Y.out _ _ (L.below b) (Zf w3 3 [z0] #[.int .i64 z0] rfl)).mono ?_;rintro e w4 ⟨rfl,hb⟩;dsimp only;replace b:=dS b hb;clear hb;refine hK.out _ _ (l.out _ b) (fun hHeld=>?_);clear hK K
  try dsimp only[Act.put,List.setIfInBounds_toArray,List.set_cons_zero,List.set_cons_succ]
  refine oA 19 26 ?_;refine oA 20 27 ?_;refine oA 21 28 ?_;refine oA 22 29 ?_;refine oA 23 30 ?_;refine oA 24 31 ?_;refine oA 25 32 ?_;refine oA 26 33 ?_;refine oA 27 34 ?_;refine oA 28 35 ?_;refine oA 29 36 ?_;refine oA 30 6 ?_;refine aO ?_
  go_wp2_with fail
  go_ret;exact⟨jD I.out.symm,dS M b⟩
 ·rw[q1]at y;rw[q2]at N;rw[q3]at Q;have I:Hid (mM [z0,z1] xs ts ys us vs=false):=ae (by simp[mM,R]);have Y:=ae fun(g:Nat) (w':World) (h:Rd w' C ts) (ho:Own w' g 3 [z0])=>RB C (some ⟨g,0,none⟩) c' 1 ts [z0] w' O au h ho.rd;rw[nC R]at Y;clear q1 q2 q3 R;go_enter Tryz.func168,Tryz.ntmps168
  go_wp2_with fail
  generalize((w.alloc (.cells #[.slice (some ⟨m,oa,none⟩) 2 c,.slice B xs.length d] 28)).alloc (.cells #[.slice C ts.length c',.slice D ys.length d'] 28)).alloc (.cells #[.slice E us.length r,.slice F vs.length u] 28)=W0 at*;obtain⟨t0,t1⟩:W0.cell? ⟨m,oa,none⟩=some (.int .i64 z0)/\W0.cell? ⟨m,oa+1,none⟩=some (.int .i64 z1):=⟨V,X⟩;have l:Hid (∀w':World,Below (W0).heap.size (W0) w'->Below (W0).heap.size (W0) w'/\w'.cell? ⟨w.heap.size,0,none⟩=some (.slice (some ⟨m,oa,none⟩) 2 c)/\w'.cell? ⟨w.heap.size,1,none⟩=some (.slice B xs.length d)/\w'.cell? ⟨w.heap.size+1,0,none⟩=some (.slice C ts.length c')/\w'.cell? ⟨w.heap.size+1,1,none⟩=some (.slice D ys.length d')/\w'.cell? ⟨w.heap.size+1+1,0,none⟩=some (.slice E us.length r)/\w'.cell? ⟨w.heap.size+1+1,1,none⟩=some (.slice F vs.length u)/\w'.cell? ⟨m,oa,none⟩=some (.int .i64 z0)/\w'.cell? ⟨m,oa+1,none⟩=some (.int .i64 z1)):=ae (fun w' j=>⟨j,(k1.keep j).cell 0,(k1.keep j).cell 1,(k2.keep j).cell 0,(k2.keep j).cell 1,(P.keep j).cell 0,(P.keep j).cell 1,(j.cell (p:=⟨_,_,_⟩) J).trans t0,(j.cell (p:=⟨_,_,_⟩) J).trans t1⟩);refine wp_region_held_drew (S:=fun w'=>Below (W0).heap.size (W0) w'/\w'.cell? ⟨w.heap.size,0,none⟩=some (.slice (some ⟨m,oa,none⟩) 2 c)/\w'.cell? ⟨w.heap.size,1,none⟩=some (.slice B xs.length d)/\w'.cell? ⟨w.heap.size+1,0,none⟩=some (.slice C ts.length c')/\w'.cell? ⟨w.heap.size+1,1,none⟩=some (.slice D ys.length d')/\w'.cell? ⟨w.heap.size+1+1,0,none⟩=some (.slice E us.length r)/\w'.cell? ⟨w.heap.size+1+1,1,none⟩=some (.slice F vs.length u)/\w'.cell? ⟨m,oa,none⟩=some (.int .i64 z0)/\w'.cell? ⟨m,oa+1,none⟩=some (.int .i64 z1)) aj (l.out _ (bq _ _).drew) (fun hHeld=>?_);have b:Below (W0).heap.size (W0) (W0).drew:=(bq _ _).drew;refine oA 0 7 ?_;refine ay 1 fun K hK=>?_;go_simp;refine(y.out _ (G.below b)).mono ?_;rintro e Z ⟨rfl,hb⟩;dsimp only;replace b:=dS b hb;clear hb;refine hK.out _ _ (l.out _ b) (fun hHeld=>?_);clear hK K
  try dsimp only[Act.put,List.setIfInBounds_toArray,List.set_cons_zero,List.set_cons_succ]
  refine oA 2 9 ?_;refine oA 3 10 ?_;refine ay 4 fun K hK=>?_;go_simp;refine(N.out _ (L.below b)).mono ?_;rintro e w2 ⟨rfl,hb⟩;dsimp only;replace b:=dS b hb;clear hb;refine hK.out _ _ (l.out _ b) (fun hHeld=>?_);clear hK K
  try dsimp only[Act.put,List.setIfInBounds_toArray,List.set_cons_zero,List.set_cons_succ]
  refine oA 5 12 ?_;refine oA 6 13 ?_;refine oA 7 14 ?_;refine ay 8 fun K hK=>?_;go_simp;refine(Q.out _ (T.below b)).mono ?_;rintro e w3 ⟨rfl,hb⟩;dsimp only;replace b:=dS b hb;clear hb;refine hK.out _ _ (l.out _ b) (fun hHeld=>?_);clear hK K
  try dsimp only[Act.put,List.setIfInBounds_toArray,List.set_cons_zero,List.set_cons_succ]
  refine oA 9 16 ?_;refine oA 10 17 ?_;refine oA 11 18 ?_;refine oA 12 19 ?_;refine oA 13 20 ?_;refine oA 14 21 ?_;refine oA 15 22 ?_;refine oA 16 23 ?_;refine ay 17 fun K hK=>?_;go_simp;replace b:=b.alloc b.size (.cells #[.int .i64 z0] 3);refine hK.out _ _ (l.out _ b) (fun hHeld=>?_);clear hK K
  try dsimp only[Act.put,List.setIfInBounds_toArray,List.set_cons_zero,List.set_cons_succ]
  refine ay 18 fun K hK=>?_;go_simp;refine(Y.out _ _ (L.below b) (Zf w3 3 [z0] #[.int .i64 z0] rfl)).mono ?_;rintro e w4 ⟨rfl,hb⟩;dsimp only;replace b:=dS b hb;clear hb;refine hK.out _ _ (l.out _ b) (fun hHeld=>?_);clear hK K
  try dsimp only[Act.put,List.setIfInBounds_toArray,List.set_cons_zero,List.set_cons_succ]
  refine oA 19 26 ?_;refine oA 20 27 ?_;refine fA 21 28 ?_;refine fA 22 29 ?_;refine fA 23 30 ?_;refine fA 24 31 ?_;refine fA 25 32 ?_;refine fA 26 33 ?_;refine fA 27 34 ?_;refine fA 28 35 ?_;refine oA 29 36 ?_;refine oA 30 6 ?_;refine aO ?_
  go_wp2_with fail
  go_ret;exact⟨jD I.out.symm,dS M b⟩
end
def xI(n:Nat)(xs:List Int)(i:Nat):List Int:=(xs.drop (i*n)).take n
theorem ai6{n i m:Nat}{xs:List Int}(h:xs.length=m*n)(hi:i<m):(xI n xs i).length=n:=by
 have:i*n+n<=m*n:=by rw[<-Bl];exact qV _ hi
 simp[xI];omega
theorem ai7{n i:Nat}{xs:List Int}{z:Int}(h:z∈xI n xs i):z∈xs:=jo (gU h)
def DW(xs ys vs:List Int)(i:Nat):Int:=dQ (Al ((xI vs.length xs i).zip vs)) (ys.getD i 0)
def wh(xs ys vs:List Int)(m:Nat):List Int:=(List.range m).map (DW xs ys vs)
theorem I4(xs ys vs:List Int)(m:Nat):(wh xs ys vs m).length=m:=by simp[wh]
theorem ai8(xs ys vs:List Int)(m:Nat):wh xs ys vs (m+1)=wh xs ys vs m++[DW xs ys vs m]:=by simp[wh,vM]
def upTo(f:Nat->List Int)(ys:List Int)(k:Nat):List Int:=f k++ys.drop k
theorem FX{f:Nat->List Int}{ys:List Int}{k:Nat}{y:Int}(b:(f k).length=k)(e:ys[k]?=some y):(upTo f ys k)[k]?=some y:=by
 rw[upTo,lC om,b,l9,lD];exact e
theorem FY{f:Nat->List Int}{ys:List Int}{k:Nat}{y z:Int}(b:(f k).length=k)(hs:f (k+1)=f k++[z])(e:ys[k]?=some y):(upTo f ys k).set k z=upTo f ys (k+1):=by
 obtain⟨j,_⟩:=aY.1 e;rw[upTo,yA _ _ om,b,l9,upTo,hs,jX];congr 1;rw[jE j,yC];rfl
theorem I5{f:Nat->List Int}{ys:List Int}{k:Nat}(b:¬k<ys.length):upTo f ys k=f k:=by
 rw[upTo,kL om,oV]
def kY(gs vs:List Int):List Int:=gs.flatMap fun g=>vs.map fun v=>dI g v
theorem Zh(gs vs:List Int):(kY gs vs).length=gs.length*vs.length:=by
 induction gs with
 |nil=>simp[kY]
 |cons g gs b=>
  rw[kY]at b;simp only[kY,sG,cu,dF,iJ,b,Bl];omega
theorem ai9{gs vs:List Int}{i j:Nat}{g v:Int}(hg:gs[i]?=some g)(hv:vs[j]?=some v):(kY gs vs)[i*vs.length+j]?=some (dI g v):=by
 induction gs generalizing i with
 |nil=>simp at hg
 |cons a gs b=>
  have e:j<vs.length:=(aY.1 hv).1;simp only[kY,sG];cases i with
  |zero=>
   simp at hg;subst hg;rw[yG,fo,Bn (by simpa using e),dE,hv];rfl
  |succ i=>
   simp at hg;rw[lC (by simp[Bl];omega),dF,show(i+1)*vs.length+j-vs.length=i*vs.length+j from by rw[Bl];omega];exact b hg
def qI(n:Nat)(xs gs:List Int)(j m:Nat):Int:=(List.range m).foldl (fun s i=>dQ s (dI (xs.getD (i*n+j) 0) (gs.getD i 0))) 0
theorem aja{n:Nat}{xs gs:List Int}{j m:Nat}{x g:Int}(b:xs[m*n+j]?=some x)(hg:gs[m]?=some g):qI n xs gs j (m+1)=dQ (qI n xs gs j m) (dI x g):=by
 simp[qI,vM,aQ,b,hg]
theorem Zi(n:Nat)(xs gs:List Int)(j m:Nat):aR (qI n xs gs j m):=by
 cases m with
 |zero=>simp[qI,aR]
 |succ m=>
  simp only[qI,vM,C9,yD,List.foldl_nil];exact BG _ _
def wm(n:Nat)(xs gs:List Int):List Int:=(List.range n).map fun j=>qI n xs gs j gs.length
def tO(n:Nat)(xs gs:List Int)(k j:Nat):List Int:=(List.range n).map fun t=>qI n xs gs t (if t<j then k+1 else k)
theorem ajb{n:Nat}{xs gs:List Int}{k j:Nat}(b:j<n):(tO n xs gs k j)[j]?=some (qI n xs gs j k):=by
 simp[tO,b]
theorem ajc{n:Nat}{xs gs:List Int}{k j:Nat}{x g:Int}(e:j<n)(l:xs[k*n+j]?=some x)(hg:gs[k]?=some g):
  (tO n xs gs k j).set j (dQ (qI n xs gs j k) (dI x g))=tO n xs gs k (j+1):=by
 apply pE;intro i;rw[nQ];by_cases hi:j=i
 ·subst hi;simp[tO,e,aja l hg]
 ·rw[if_neg hi];simp only[tO,dE];by_cases b:i<n
  ·simp only[xc b,PX];by_cases h:i<j
   ·rw[if_pos h,if_pos om]
   ·rw[if_neg h,if_neg om]
  ·rw[mE (by simpa using b)];rfl
theorem ajd(n:Nat)(xs gs:List Int)(k:Nat):tO n xs gs k n=tO n xs gs (k+1) 0:=by
 apply oZ;intro t ht;rw[yF]at ht;rw[if_pos ht,if_neg om]
theorem aje(n:Nat)(xs gs:List Int):tO n xs gs 0 0=List.replicate n 0:=by
 rw[Ls];refine⟨by simp[tO],fun z b=>?_⟩;obtain⟨t,_,rfl⟩:=dG.1 b;simp[qI]
theorem ajf(n:Nat)(xs gs:List Int):tO n xs gs gs.length 0=wm n xs gs:=by simp[tO,wm]
theorem ajg{l:List Int}{p:Nat}{z:Int}(h:l[p]?=some z):l.take (p+1)=l.take p++[z]:=by
 obtain⟨hp,e⟩:=aY.1 h;rw[Lb hp,e]
section
section
variable{P:Program}{f:FuncId}{args:Array Value}{w:World}{v:Value}
theorem ajh(h:Calls P f args w fun e w'=>e=.returned v/\w=w'):Calls P f args w (xk w v):=h.mono fun _ _ ⟨b,j⟩=>⟨b,j▸bq _ _⟩
theorem aji{n:Int}(h:Calls P f args w (YK w n)):Calls P f args w (xk w (.int .i64 n)):=h.mono fun _ _ ⟨b,m,e⟩=>⟨b,e▸below_drewN (bq _ _) m⟩
end
theorem RD(A:Option Addr)(b off c d M N i S:Nat)(xs:List Int)(w:World)(hd:xs.length<=d)(l:M<=1024)(hN:N<=1024)(e:1<=N)(m:Hid (xs.length=M*N))(j:xs.length<=65536)(hi:i<M)(hS:Hid (i*N=S))(h:Rd w A [(M:Int),(N:Int)]):
  Calls Tryz.prog 169 #[.agg #[.slice A 2 c,.slice (some ⟨b,off,none⟩) xs.length d],i] w (xk w (.slice (some ⟨b,off+S,none⟩) N N)):=
 (ai5 A b off c d M N i S xs w hd l hN e m j hi hS h).mono fun _ _ ⟨r,u⟩=>⟨r,u▸(bq _ _).alloc (az _) _⟩
theorem Rd.row{w:World}{b off:Nat}{xs:List Int}(h:Rd w (some ⟨b,off,none⟩) xs)(n i:Nat):Rd w (some ⟨b,off+i*n,none⟩) (xI n xs i):=by
 intro j z l;have m:xs[i*n+j]?=some z:=by
  rw[xI,l7]at l
  split at l
  ·rwa[lD]at l
  ·cases l
 obtain⟨b',r,e,hb,u⟩:=h _ _ m;injection e with e;injection e with y B;subst y;subst B
 exact⟨b,off+i*n,rfl,hb,by rw[C8];exact u⟩
theorem Zj{zs xs ts ys us vs:List Int}(h:mM zs xs ts ys us vs=true):
  ∃M N:Nat,zs=[(M:Int),(N:Int)]/\ts=[(M:Int)]/\xs.length=M*N/\ys.length=M/\vs.length=N/\1<=M/\1<=N/\M<=1024/\N<=1024/\xs.length<=65536/\bH zs xs=true/\bH ts ys=true/\bH us vs=true:=by
 simp only[mM,xH,dm,dU]at h;obtain⟨⟨⟨⟨⟨j,u⟩,l⟩,y⟩,m⟩,B⟩:=h;obtain⟨z0,z1,rfl⟩:∃z0 z1,zs=[z0,z1]:=by
  match zs,u with
  |[z0,z1],_=>exact⟨z0,z1,rfl⟩
 obtain⟨C,r⟩:=(jI _ _).1 j;obtain⟨k1,k2⟩:=(jI _ _).1 l;obtain⟨-,-,b,e⟩:=(j5 _).1 C;have a0:=zV b (z:=z0) au;have D:=zV b (z:=z1) au;obtain⟨M,rfl,E⟩:=IP a0.1;obtain⟨N,rfl,hN⟩:=IP D.1;simp at m B;subst m;simp[aV]at r k2 e;have F:xs.length=M*N:=by exact_mod_cast r
 exact⟨M,N,rfl,rfl,F,om,om,E,hN,om,om,om,j,l,y⟩
theorem ajj(A B C D E F:Option Addr)(c d c' d' e' Q:Nat)(zs xs ts ys us vs:List Int)(w:World)(hd:xs.length<=d)(rF:us.length<=1000000)(h1:Rd w A zs)(h2:Rd w B xs)(h3:Rd w C ts)(h4:Rd w D ys)(h5:Rd w E us)(h6:Rd w F vs)(hx:Hid (∀z∈xs,aR z))(hy:Hid (∀z∈ys,aR z))(hv:Hid (∀z∈vs,aR z))(hr:Hid (mM zs xs ts ys us vs=true)):
  Calls Tryz.prog 158 #[.agg #[.slice A zs.length c,.slice B xs.length d],.agg #[.slice C ts.length c',.slice D ys.length d'],.agg #[.slice E us.length e',.slice F vs.length Q]] w (zX w ts (wh xs ys vs ys.length) 0):=by
 obtain⟨M,N,rfl,rfl,R,Z,hvl,hM1,hN1,hM,hN,hx6,-,-,-⟩:=Zj hr.out;have rq:=ae R;have HYL:=ae Z;have FZ:=ae hvl;have hyM:ys.length<=1024:=om;have hvN:vs.length<=1024:=om;have hx1:0<xs.length:=by rw[R];exact Lt hM1 hN1
 obtain⟨bx,ox,x0,rfl,-,-,-⟩:=h2.get (k:=0) hx1;clear R Z hvl;have kW:=aD.new w 28 #[.slice A 2 c,.slice (some ⟨bx,ox,none⟩) xs.length d];have kB:=aD.new' (w.alloc (.cells #[.slice A 2 c,.slice (some ⟨bx,ox,none⟩) xs.length d] 28)) 28 #[.slice C 1 c',.slice D ys.length d'] (n:=w.heap.size+1) au;have kX:=aD.new' ((w.alloc (.cells #[.slice A 2 c,.slice (some ⟨bx,ox,none⟩) xs.length d] 28)).alloc (.cells #[.slice C 1 c',.slice D ys.length d'] 28)) 28 #[.slice E us.length e',.slice F vs.length Q] (n:=w.heap.size+1+1) au;have kR:=aD.new' (((w.alloc (.cells #[.slice A 2 c,.slice (some ⟨bx,ox,none⟩) xs.length d] 28)).alloc (.cells #[.slice C 1 c',.slice D ys.length d'] 28)).alloc (.cells #[.slice E us.length e',.slice F vs.length Q] 28)) 28 #[.slice none 0 0,.slice none 0 0] (n:=w.heap.size+1+1+1) au;go_enter Tryz.func158,Tryz.ntmps158
 go_wp2_with fail
 refine(Zg A (some ⟨bx,ox,none⟩) C D E F c d c' d' e' Q [(M:Int),(N:Int)] xs [(M:Int)] ys us vs _ au au rF h1.at h3.at h5.at).mono ?_;rintro e w1 ⟨rfl,hb⟩;have DX:=ak.mk hb;clear hb;rw[hr.out];have hs1:=(kR.at (w':=w1)).lt;obtain⟨q0,T⟩:=fC (kB.at (w':=w1))
 go_wp2_with fail
 clear q0 T;refine(Dm C D c' d' [(M:Int)] ys _ au om h3.at h4.at).mono ?_;rintro e U ⟨g,r,rfl,hg,hg',ho,V,hb⟩;have Yv:=ak.mk hb;clear hb;have hg2:=V.lt;obtain⟨q0,T⟩:=fC ((kB.at (w':=U)).alloc (.cells #[.slice g 1 1,.slice r ys.length ys.length] 28))
 go_wp2_with fail
 clear q0 T;have kO:=aD.new U 28 #[.slice g 1 1,.slice r ys.length ys.length];have hoW:=V.alloc (.cells #[.slice g 1 1,.slice r ys.length ys.length] 28);have pW:=ak.alloc U (.cells #[.slice g 1 1,.slice r ys.length ys.length] 28);generalize U.alloc (.cells #[.slice g 1 1,.slice r ys.length ys.length] 28)=W at*;go_loopw [22] (fun i wr=>∃k:Nat,k<=ys.length/\i=.int .i64 k/\Aside r W wr/\Own wr r 65 (upTo (wh xs ys vs) ys k)/\Below w.heap.size w wr) (fun i _=>ys.length-(intOf i).toNat)
 case atStart=>exact⟨0,aS _,rfl,Aside.refl _ _,hoW,aL w W⟩
 case round=>
  obtain⟨k,hk,rfl,G,hO,L⟩:=hrel;have n1:w.heap.size≠r:=om;have n2:w.heap.size+1+1≠r:=om;have n3:w.heap.size+1+1+1≠r:=om;have n4:U.heap.size≠r:=om;have O:w.heap.size<=r:=om;have Y:=G.blk (kR.at (w':=W)) n3;have mO:=G.blk kO n4;by_cases X:k<ys.length
  ·have mW:=G.blk (kW.at (w':=W)) n1;have mX:=G.blk (kX.at (w':=W)) n2;have r1:=G.qA h1 (h1.at (w':=W)) O;have r2:=G.qA h2 (h2.at (w':=W)) O;have r6:=G.qA h6 (h6.at (w':=W)) O;obtain⟨b,off,y,rfl,hb4,hc4,I⟩:=(G.qA h4 (h4.at (w':=W)) O).get X;obtain⟨S,hS⟩:∃S,Hid (k*N=S):=⟨_,ae rfl⟩;have F6:k<M:=by rw[<-HYL.out];exact X
   have hrl:(xI N xs k).length=N:=ai6 rq.out F6;have CL:=ae fun(w':World) (h:Rd w' A [(M:Int),(N:Int)])=>RD A bx ox c d M N k S xs w' hd hM hN hN1 rq hx6 F6 hS h;have CD:=ae fun(w':World) (ha:Rd w' (some ⟨bx,ox+S,none⟩) (xI N xs k)) (hb:Rd w' F vs)=>aji (ah1 (some ⟨bx,ox+S,none⟩) F N Q (xI N xs k) vs w' om om (ae fun z hz=>hx.out z (ai7 hz)) hv ha hb);rw[hrl]at CD;have CA:=ae fun(w':World)=>ajh (Dp (Al ((xI N xs k).zip vs)) y w' (Rf _) (hy.out y (aK I.out)));have HG:Hid (dQ (Al ((xI N xs k).zip vs)) y=DW xs ys vs k):=ae (by
    unfold DW;rw[FZ.out,aQ,I.out];rfl)
   rw[HG.out]at CA;have Au:=ae (FX (f:=wh xs ys vs) (I4 xs ys vs k) I.out);have RF:=ae (FY (f:=wh xs ys vs) (I4 xs ys vs k) (ai8 xs ys vs k) I.out);clear hrl
   go_wp2_with fail
   have u:Hid (∀w':World,Aside r (wr) w'->w'.cell? ⟨U.heap.size,1,none⟩=some (.slice r ys.length ys.length)/\w'.cell? ⟨w.heap.size,0,none⟩=some (.slice A 2 c)/\w'.cell? ⟨w.heap.size,1,none⟩=some (.slice (some ⟨bx,ox,none⟩) xs.length d)/\w'.cell? ⟨w.heap.size+1+1,1,none⟩=some (.slice F vs.length Q)):=ae (fun w' J=>⟨(J.blk mO n4).cell 1,(J.blk mW n1).cell 0,(J.blk mW n1).cell 1,(J.blk mX n2).cell 1⟩);refine wp_region_held_drew (S:=fun w'=>w'.cell? ⟨U.heap.size,1,none⟩=some (.slice r ys.length ys.length)/\w'.cell? ⟨w.heap.size,0,none⟩=some (.slice A 2 c)/\w'.cell? ⟨w.heap.size,1,none⟩=some (.slice (some ⟨bx,ox,none⟩) xs.length d)/\w'.cell? ⟨w.heap.size+1+1,1,none⟩=some (.slice F vs.length Q)) aj (u.out _ (Aside.refl _ _).drew) (fun hHeld=>?_);have j:Aside r (wr) (wr).drew:=(Aside.refl _ _).drew;have l:=(hO).drew;have m:=(L).drew;refine oA 0 27 ?_;refine oA 1 28 ?_;refine oA 2 29 ?_;refine oA 3 30 ?_;refine oA 4 31 ?_;refine oA 6 33 ?_;refine oA 7 34 ?_;refine oA 9 36 ?_;refine ay 5 fun K hK=>?_;go_simp;refine(CL.out _ (j.qA h1 r1 O)).mono ?_;rintro e w3 ⟨rfl,hb⟩;dsimp only;replace j:=j.below hb;replace l:=l.keep hb;replace m:=dS m hb;clear hb;refine hK.out _ _ (u.out _ j) (fun hHeld=>?_);clear hK K
   try dsimp only[Act.put,List.setIfInBounds_toArray,List.set_cons_zero,List.set_cons_succ]
   have P:=(j.qA h2 r2 O).row N k;rw[hS.out]at P;refine ay 8 fun K hK=>?_;go_simp;refine(CD.out _ P (j.qA h6 r6 O)).mono ?_;rintro e w4 ⟨rfl,hb⟩;dsimp only;replace j:=j.below hb;replace l:=l.keep hb;replace m:=dS m hb;clear hb;refine hK.out _ _ (u.out _ j) (fun hHeld=>?_);clear hK K
   try dsimp only[Act.put,List.setIfInBounds_toArray,List.set_cons_zero,List.set_cons_succ]
   refine ay 10 fun K hK=>?_;go_simp;refine(CA.out _).mono ?_;rintro e w5 ⟨rfl,hb⟩;dsimp only;replace j:=j.below hb;replace l:=l.keep hb;replace m:=dS m hb;clear hb;refine hK.out _ _ (u.out _ j) (fun hHeld=>?_);clear hK K
   try dsimp only[Act.put,List.setIfInBounds_toArray,List.set_cons_zero,List.set_cons_succ]
   refine oA 11 38 ?_;have hc:=l.cell (Au.out);have hf:=l.frozen (k);refine ay 12 fun K hK=>?_;go_simp;clear hc hf;replace j:=j.aF (k) (.int .i64 (DW xs ys vs k));replace l:=l.aF (k) (DW xs ys vs k);replace m:=m.setCell (p:=⟨_,k,none⟩) (O) (.int .i64 (DW xs ys vs k));refine hK.out _ _ (u.out _ j) (fun hHeld=>?_);clear hK K
   try dsimp only[Act.put,List.setIfInBounds_toArray,List.set_cons_zero,List.set_cons_succ]
   refine aO ?_
   go_wp2_with fail
   rw[RF.out]at l;go_roundw
   case rel=>exact⟨k+1,om,by go_num,G.trans j,l,m⟩
   case measure=>simp[intOf];omega
  ·rw[I5 X]at hO;have e:k=ys.length:=om;subst e;have HO:=ae hO;have o1:=G.own (ho.at (w':=W)) (ho.bP (cs:=ints ys) V ah);clear hO;obtain⟨p0,p1⟩:=fC mO;obtain⟨q0,T⟩:=fC Y;have f0:=Y.frozen 0;have f1:=Y.frozen 1;have l1:=o1.bP Y ah;have l2:=HO.out.bP Y ah
   go_wp2_with fail
   have k3:=Y.set2 (.slice g 1 1) (.slice r ys.length ys.length);have B3:=gW L (p:=w.heap.size+1+1+1) om (.slice g 1 1) (.slice r ys.length ys.length);have o3:=o1.dY l1 (.slice g 1 1) (.slice r ys.length ys.length);have o4:=HO.out.dY l2 (.slice g 1 1) (.slice r ys.length ys.length);clear q0 T;obtain⟨q0,T⟩:=fC k3;refine bM (v:=.tuple #[.agg #[.slice g 1 1,.slice r ys.length ys.length],(0:Int)]) (by simp[results,Tryz.results158,go_sem,q0,T]) rfl ?_;exact zX.yes om om au (by rw[I4];omega) o3 o4 B3 _ (by rw[I4];rfl)
end
end Go.Proofs.YtmkjnlifimffkaaGreat
