/- Lemmas. No condition. -/
import Derived.Test.YtmkjnlifimffkaaGreatS17
namespace Go.Proofs.YtmkjnlifimffkaaGreat
open Go.RowKit
set_option linter.all false
set_option maxRecDepth 100000
set_option maxHeartbeats 16000000
section
theorem DY{w:World}{g:Nat}{T:TypeId}{v0 v1 v2 v3 v4 v5:Value}(h:aD w g T #[v0,v1,v2,v3,v4,v5]):
  w.cell? ⟨g,0,none⟩=some v0/\w.cell? ⟨g,1,none⟩=some v1/\w.cell? ⟨g,2,none⟩=some v2/\w.cell? ⟨g,3,none⟩=some v3/\w.cell? ⟨g,4,none⟩=some v4/\w.cell? ⟨g,5,none⟩=some v5:=
 ⟨h.cell 0,h.cell 1,h.cell 2,h.cell 3,h.cell 4,h.cell 5⟩
def World.Cf(w:World)(g:Nat)(v0 v1 v2 v3 v4 v5:Value):World:=(((((w.setCell ⟨g,0,none⟩ v0).setCell ⟨g,1,none⟩ v1).setCell ⟨g,2,none⟩ v2).setCell ⟨g,3,none⟩ v3).setCell ⟨g,4,none⟩ v4).setCell ⟨g,5,none⟩ v5
theorem aD.Cf{w:World}{g:Nat}{T:TypeId}{a b c d e f:Value}(h:aD w g T #[a,b,c,d,e,f])(v0 v1 v2 v3 v4 v5:Value):
  aD ((((((w.setCell ⟨g,0,none⟩ v0).setCell ⟨g,1,none⟩ v1).setCell ⟨g,2,none⟩ v2).setCell ⟨g,3,none⟩ v3).setCell ⟨g,4,none⟩ v4).setCell ⟨g,5,none⟩ v5) g T #[v0,v1,v2,v3,v4,v5]:=
 (((((h.aF 0 v0).aF 1 v1).aF 2 v2).aF 3 v3).aF 4 v4).aF 5 v5
theorem xJ{w w':World}{n p:Nat}(h:Below n w w')(hp:n<=p)(v0 v1 v2 v3 v4 v5:Value):
  Below n w ((((((w'.setCell ⟨p,0,none⟩ v0).setCell ⟨p,1,none⟩ v1).setCell ⟨p,2,none⟩ v2).setCell ⟨p,3,none⟩ v3).setCell ⟨p,4,none⟩ v4).setCell ⟨p,5,none⟩ v5):=
 (((((h.setCell (p:=⟨p,0,none⟩) hp v0).setCell (p:=⟨p,1,none⟩) hp v1).setCell (p:=⟨p,2,none⟩) hp v2).setCell (p:=⟨p,3,none⟩) hp v3).setCell (p:=⟨p,4,none⟩) hp v4).setCell (p:=⟨p,5,none⟩) hp v5
theorem nH{w:World}{p:Nat}(v0 v1 v2 v3 v4 v5:Value):
  Off [p] w ((((((w.setCell ⟨p,0,none⟩ v0).setCell ⟨p,1,none⟩ v1).setCell ⟨p,2,none⟩ v2).setCell ⟨p,3,none⟩ v3).setCell ⟨p,4,none⟩ v4).setCell ⟨p,5,none⟩ v5):=
 have m:p∈[p]:=au
 ((((((Off.refl [p] w).aF m 0 v0).aF m 1 v1).aF m 2 v2).aF m 3 v3).aF m 4 v4).aF m 5 v5
theorem Off.kH{p k:Nat}{W wr:World}{T:TypeId}{zs:List Int}(h:Off [p] W wr)(hb:Own W k T zs)(b:k≠p):Own wr k T zs:=h.own hb (by simpa using b)
def I7(zs xs ts ys us vs ps gs:List Int):Bool:=mM zs xs ts ys us vs&&bH ps gs&&decide (ps=ts)
def ajn(w:World)(zs xs ts ys us vs:List Int)(E:Int)(e:Ending)(w':World):Prop:=
 ∃A c B d A' c' B' d' b j l m,e=.returned (.tuple #[.agg #[.slice A zs.length c,.slice B xs.length d,.slice A' ts.length c',.slice B' ys.length d',.slice b us.length j,.slice l vs.length m],E])/\
  aG w' w.heap.size 3 A c zs/\aG w' w.heap.size 65 B d xs/\aG w' w.heap.size 3 A' c' ts/\aG w' w.heap.size 65 B' d' ys/\aG w' w.heap.size 3 b j us/\aG w' w.heap.size 65 l m vs/\Below w.heap.size w w'
theorem ajo(A B C D E F G H:Option Addr)(c d c' d' e' f' g' h':Nat)(zs xs ts ys us vs ps gs:List Int)(w:World)(hd:xs.length<=d)(rF:us.length<=1000000)(h1:Rd w A zs)(h2:Rd w B xs)(h3:Rd w C ts)(h5:Rd w E us)(h6:Rd w F vs)(h7:Rd w G ps)(h8:Rd w H gs)(hx:Hid (∀z∈xs,aR z))(hv:Hid (∀z∈vs,aR z))(hg:Hid (∀z∈gs,aR z))(hr:Hid (I7 zs xs ts ys us vs ps gs=true)):
  Calls Tryz.prog 105 #[.agg #[.slice A zs.length c,.slice B xs.length d],.agg #[.slice C ts.length c',.slice D ys.length d'],.agg #[.slice E us.length e',.slice F vs.length f'],.agg #[.slice G ps.length g',.slice H gs.length h']] w (ajn w zs (kY gs vs) ts gs us (wm vs.length xs gs) 0):=by
 obtain⟨Q1,Q2,Q3⟩:Hid (mM zs xs ts ys us vs=true)/\Hid (bH ps gs=true)/\Hid (ps=ts):=by
  have:=hr.out;simp only[I7,dm,dU]at this;exact⟨this.1.1,this.1.2,this.2⟩
 obtain⟨M,N,rfl,rfl,hxl,hyl,hvl,hM1,hN1,hM,hN,hx6,-,-,-⟩:=Zj Q1.out;have hgl:gs.length=M:=by
  have:=((jI _ _).1 Q2.out).2;rw[Q3.out]at this;simp[aV]at this;omega
 have X:=Q3.out;subst X;have rq:=ae hxl;have FZ:=ae hvl;have I8:=ae hgl;have hgM:gs.length<=1024:=om;have hvN:vs.length<=1024:=om;have hv1:0<vs.length:=om;have hx1:0<xs.length:=by rw[hxl];exact Lt hM1 hN1
 obtain⟨bx,ox,x0,rfl,-,-,-⟩:=h2.get (k:=0) hx1;have R:Hid ((kY gs vs).length=xs.length):=ae (by rw[Zh,hgl,hvl,hxl]);clear hxl hyl hvl hgl Q3;have kW:=aD.new w 28 #[.slice A 2 c,.slice (some ⟨bx,ox,none⟩) xs.length d];have kB:=aD.new' (w.alloc (.cells #[.slice A 2 c,.slice (some ⟨bx,ox,none⟩) xs.length d] 28)) 28 #[.slice C 1 c',.slice D ys.length d'] (n:=w.heap.size+1) au;have kX:=aD.new' ((w.alloc (.cells #[.slice A 2 c,.slice (some ⟨bx,ox,none⟩) xs.length d] 28)).alloc (.cells #[.slice C 1 c',.slice D ys.length d'] 28)) 28 #[.slice E us.length e',.slice F vs.length f'] (n:=w.heap.size+1+1) au;have kG:=aD.new' (((w.alloc (.cells #[.slice A 2 c,.slice (some ⟨bx,ox,none⟩) xs.length d] 28)).alloc (.cells #[.slice C 1 c',.slice D ys.length d'] 28)).alloc (.cells #[.slice E us.length e',.slice F vs.length f'] 28)) 28 #[.slice G 1 g',.slice H gs.length h'] (n:=w.heap.size+1+1+1) au;have kR:=aD.new' ((((w.alloc (.cells #[.slice A 2 c,.slice (some ⟨bx,ox,none⟩) xs.length d] 28)).alloc (.cells #[.slice C 1 c',.slice D ys.length d'] 28)).alloc (.cells #[.slice E us.length e',.slice F vs.length f'] 28)).alloc (.cells #[.slice G 1 g',.slice H gs.length h'] 28)) 201 #[.slice none 0 0,.slice none 0 0,.slice none 0 0,.slice none 0 0,.slice none 0 0,.slice none 0 0] (n:=w.heap.size+1+1+1+1) au;go_enter Tryz.func105,Tryz.ntmps105
 go_wp2_with fail
 refine(Zg A (some ⟨bx,ox,none⟩) C D E F c d c' d' e' f' [(M:Int),(N:Int)] xs [(M:Int)] ys us vs _ au au rF h1.at h3.at h5.at).mono ?_;rintro e w1 ⟨rfl,hb⟩;have DX:=ak.mk hb;clear hb;rw[Q1.out];obtain⟨p0,p1⟩:=fC (kG.at (w':=w1))
 go_wp2_with fail
 refine(vU G H g' h' [(M:Int)] gs _ au h7.at).mono ?_;rintro e w2 ⟨rfl,hb⟩;have Yv:=ak.mk hb;clear hb;rw[Q2.out];clear p0 p1;obtain⟨p0,p1⟩:=fC (kG.at (w':=w2));obtain⟨q0,Y⟩:=fC (kB.at (w':=w2))
 go_wp2_with fail
 refine(RB G C g' c' [(M:Int)] [(M:Int)] _ au au h7.at h3.at).mono ?_;rintro e y ⟨rfl,hb⟩;have wo:=ak.mk hb;clear hb;rw[show decide (([(M:Int)]:List Int)=[(M:Int)])=true from l8 rfl];clear p0 p1 q0 Y;have hs3:=(kR.at (w':=y)).lt
 go_upto_region 3 with fail
 go_cut [10] (fun s10 wx=>∃Z a b c d e f:Nat,s10=.pointer Z/\aD wx Z 201 #[.slice a 2 2,.slice b xs.length xs.length,.slice c 1 1,.slice d gs.length gs.length,.slice (some ⟨e,0,none⟩) us.length us.length,.slice f vs.length vs.length]/\
  Own wx a 3 [(M:Int),(N:Int)]/\Own wx b 65 xs/\Own wx c 3 [(M:Int)]/\Own wx d 65 gs/\Own wx e 3 us/\Own wx f 65 vs/\y.heap.size<=a/\y.heap.size<=b/\y.heap.size<=c/\y.heap.size<=d/\y.heap.size<=e/\y.heap.size<=f/\y.heap.size<=Z/\b<d/\d<f/\Below y.heap.size y wx)
 case first=>
  have C1:=ae fun(w':World) (ha:Rd w' A [(M:Int),(N:Int)]) (hb:Rd w' (some ⟨bx,ox,none⟩) xs)=>Dm A (some ⟨bx,ox,none⟩) c d [(M:Int),(N:Int)] xs w' au om ha hb;have C2:=ae fun(w':World) (ha:Rd w' G [(M:Int)]) (hb:Rd w' H gs)=>Dm G H g' h' [(M:Int)] gs w' au om ha hb;have C3:=ae fun(w':World) (ha:Rd w' E us) (hb:Rd w' F vs)=>Dm E F e' f' us vs w' om om ha hb;have m:Hid (∀w':World,Below (y).heap.size (y) w'->w'.cell? ⟨w.heap.size,0,none⟩=some (.slice A 2 c)/\w'.cell? ⟨w.heap.size,1,none⟩=some (.slice (some ⟨bx,ox,none⟩) xs.length d)/\w'.cell? ⟨w.heap.size+1+1,0,none⟩=some (.slice E us.length e')/\w'.cell? ⟨w.heap.size+1+1,1,none⟩=some (.slice F vs.length f')/\w'.cell? ⟨w.heap.size+1+1+1,0,none⟩=some (.slice G 1 g')/\w'.cell? ⟨w.heap.size+1+1+1,1,none⟩=some (.slice H gs.length h')):=ae (fun w' u=>⟨(kW.at.keep u).cell 0,(kW.at.keep u).cell 1,(kX.at.keep u).cell 0,(kX.at.keep u).cell 1,(kG.at.keep u).cell 0,(kG.at.keep u).cell 1⟩);refine wp_region_held_drew (S:=fun w'=>w'.cell? ⟨w.heap.size,0,none⟩=some (.slice A 2 c)/\w'.cell? ⟨w.heap.size,1,none⟩=some (.slice (some ⟨bx,ox,none⟩) xs.length d)/\w'.cell? ⟨w.heap.size+1+1,0,none⟩=some (.slice E us.length e')/\w'.cell? ⟨w.heap.size+1+1,1,none⟩=some (.slice F vs.length f')/\w'.cell? ⟨w.heap.size+1+1+1,0,none⟩=some (.slice G 1 g')/\w'.cell? ⟨w.heap.size+1+1+1,1,none⟩=some (.slice H gs.length h')) aj (m.out _ (aL _ _)) (fun _=>?_);refine Xa (fun wD pwD=>?_);have hHeld:=m.out wD (aL _ _);refine oA 0 36 ?_;refine oA 2 38 ?_;refine oA 4 40 ?_;refine il 1 7 (fun K hK=>?_) (fun K hK=>?_)
  ·go_simp;refine(C1.out _ h1.at h2.at).mono ?_;rintro e wA ⟨a,b,rfl,la,lb,oa,ob,hb⟩;dsimp only;have Zk:=ak.mk hb;clear hb;refine hK.out _ _ (m.out _ (aL _ _)) (fun hHeld=>?_);clear hK K
   try dsimp only[Act.put,List.setIfInBounds_toArray,List.set_cons_zero,List.set_cons_succ]
   refine il 3 7 (fun K hK=>?_) (fun K hK=>?_)
   ·go_simp;refine(C2.out _ h7.at h8.at).mono ?_;rintro e T ⟨c2,U,rfl,lc,ld,Q,L,hb⟩;dsimp only;have RG:=ak.mk hb;clear hb;refine hK.out _ _ (m.out _ (aL _ _)) (fun hHeld=>?_);clear hK K
    try dsimp only[Act.put,List.setIfInBounds_toArray,List.set_cons_zero,List.set_cons_succ]
    refine il 5 7 (fun K hK=>?_) (fun K hK=>?_)
    focus
     go_simp;refine(C3.out _ h5.at h6.at).mono ?_;rintro e wC ⟨J,f2,rfl,le,lf,O,of,hb⟩;dsimp only;have RH:=ak.mk hb;clear hb;refine hK.out _ _ (m.out _ (aL _ _)) (fun hHeld=>?_);clear hK K
     try dsimp only[Act.put,List.setIfInBounds_toArray,List.set_cons_zero,List.set_cons_succ]
     refine oA 6 42 ?_;refine ay 7 fun K hK=>?_;go_simp;refine vS hK (fun _=>?_) (m.out _ (aL _ _));clear hK K;refine Ma (fun u1 tJ l RI=>?_);have hHeld:=m.out u1 (aL _ _)
    rotate_left
    focus
     go_simp;refine vS hK (fun _=>?_) (m.out _ (aL _ _));clear hK K;refine Ma (fun u1 tJ l RI=>?_);have hHeld:=m.out u1 (aL _ _);refine ay 5 fun K hK=>?_;go_simp;refine(C3.out _ h5.at h6.at).mono ?_;rintro e wC ⟨J,f2,rfl,le,lf,O,of,hb⟩;dsimp only;have RH:=ak.mk hb;clear hb;refine hK.out _ _ (m.out _ (aL _ _)) (fun hHeld=>?_);clear hK K
     try dsimp only[Act.put,List.setIfInBounds_toArray,List.set_cons_zero,List.set_cons_succ]
     refine oA 6 42 ?_
    all_goals
     refine ay 8 fun K hK=>?_;rename World=>wN;obtain⟨q0,Y,q2,X,q4,q5⟩:=DY (l.at (w':=wN));have y0:=(l.at (w':=wN)).frozen 0;have y1:=(l.at (w':=wN)).frozen 1;have y2:=(l.at (w':=wN)).frozen 2;have y3:=(l.at (w':=wN)).frozen 3;have y4:=(l.at (w':=wN)).frozen 4;have y5:=(l.at (w':=wN)).frozen 5
     skip
     go_simp;refine hK.out _ _ (m.out _ (xJ (aL y wN) aH _ _ _ _ _ _)) (fun hHeld=>?_);clear hK K
     try dsimp only[Act.put,List.setIfInBounds_toArray,List.set_cons_zero,List.set_cons_succ]
     have n1:=bV ob.lt (aZ (aH (w:=wA)) ld);have n2:=bV L.lt (aZ (aH (w:=T)) lf);refine aO ?_
     go_wp2_with fail
     go_meet
     exact⟨_,a,b,c2,U,J,f2,rfl,(l.at (w':=wN)).Cf _ _ _ _ _ _,(nH _ _ _ _ _ _).kH (oa.at (w':=wN)) ((oa.at (w':=wN)).bP (l.at (w':=wN)) ah),(nH _ _ _ _ _ _).kH (ob.at (w':=wN)) ((ob.at (w':=wN)).bP (l.at (w':=wN)) ah),(nH _ _ _ _ _ _).kH (Q.at (w':=wN)) ((Q.at (w':=wN)).bP (l.at (w':=wN)) ah),(nH _ _ _ _ _ _).kH (L.at (w':=wN)) ((L.at (w':=wN)).bP (l.at (w':=wN)) ah),(nH _ _ _ _ _ _).kH (O.at (w':=wN)) ((O.at (w':=wN)).bP (l.at (w':=wN)) ah),(nH _ _ _ _ _ _).kH (of.at (w':=wN)) ((of.at (w':=wN)).bP (l.at (w':=wN)) ah),aZ aH la,aZ aH lb,aZ aH lc,aZ aH ld,aZ aH le,aZ aH lf,aH,n1,n2,xJ (aL y wN) aH _ _ _ _ _ _⟩
   ·go_simp;refine vS hK (fun _=>?_) (m.out _ (aL _ _));clear hK K;refine Ma (fun u1 tJ l RI=>?_);have hHeld:=m.out u1 (aL _ _);refine ay 3 fun K hK=>?_;go_simp;refine(C2.out _ h7.at h8.at).mono ?_;rintro e T ⟨c2,U,rfl,lc,ld,Q,L,hb⟩;dsimp only;have RG:=ak.mk hb;clear hb;refine hK.out _ _ (m.out _ (aL _ _)) (fun hHeld=>?_);clear hK K
    try dsimp only[Act.put,List.setIfInBounds_toArray,List.set_cons_zero,List.set_cons_succ]
    refine ay 5 fun K hK=>?_;go_simp;refine(C3.out _ h5.at h6.at).mono ?_;rintro e wC ⟨J,f2,rfl,le,lf,O,of,hb⟩;dsimp only;have RH:=ak.mk hb;clear hb;refine hK.out _ _ (m.out _ (aL _ _)) (fun hHeld=>?_);clear hK K
    try dsimp only[Act.put,List.setIfInBounds_toArray,List.set_cons_zero,List.set_cons_succ]
    refine oA 6 42 ?_;refine ay 8 fun K hK=>?_;rename World=>wN;obtain⟨q0,Y,q2,X,q4,q5⟩:=DY (l.at (w':=wN));have y0:=(l.at (w':=wN)).frozen 0;have y1:=(l.at (w':=wN)).frozen 1;have y2:=(l.at (w':=wN)).frozen 2;have y3:=(l.at (w':=wN)).frozen 3;have y4:=(l.at (w':=wN)).frozen 4;have y5:=(l.at (w':=wN)).frozen 5
    skip
    go_simp;refine hK.out _ _ (m.out _ (xJ (aL y wN) aH _ _ _ _ _ _)) (fun hHeld=>?_);clear hK K
    try dsimp only[Act.put,List.setIfInBounds_toArray,List.set_cons_zero,List.set_cons_succ]
    have n1:=bV ob.lt (aZ (aH (w:=wA)) ld);have n2:=bV L.lt (aZ (aH (w:=T)) lf);refine aO ?_
    go_wp2_with fail
    go_meet
    exact⟨_,a,b,c2,U,J,f2,rfl,(l.at (w':=wN)).Cf _ _ _ _ _ _,(nH _ _ _ _ _ _).kH (oa.at (w':=wN)) ((oa.at (w':=wN)).bP (l.at (w':=wN)) ah),(nH _ _ _ _ _ _).kH (ob.at (w':=wN)) ((ob.at (w':=wN)).bP (l.at (w':=wN)) ah),(nH _ _ _ _ _ _).kH (Q.at (w':=wN)) ((Q.at (w':=wN)).bP (l.at (w':=wN)) ah),(nH _ _ _ _ _ _).kH (L.at (w':=wN)) ((L.at (w':=wN)).bP (l.at (w':=wN)) ah),(nH _ _ _ _ _ _).kH (O.at (w':=wN)) ((O.at (w':=wN)).bP (l.at (w':=wN)) ah),(nH _ _ _ _ _ _).kH (of.at (w':=wN)) ((of.at (w':=wN)).bP (l.at (w':=wN)) ah),aZ aH la,aZ aH lb,aZ aH lc,aZ aH ld,aZ aH le,aZ aH lf,aH,n1,n2,xJ (aL y wN) aH _ _ _ _ _ _⟩
  ·go_simp;refine vS hK (fun _=>?_) (m.out _ (aL _ _));clear hK K;refine Ma (fun u1 tJ l RI=>?_);have hHeld:=m.out u1 (aL _ _);refine ay 1 fun K hK=>?_;go_simp;refine(C1.out _ h1.at h2.at).mono ?_;rintro e wA ⟨a,b,rfl,la,lb,oa,ob,hb⟩;dsimp only;have Zk:=ak.mk hb;clear hb;refine hK.out _ _ (m.out _ (aL _ _)) (fun hHeld=>?_);clear hK K
   try dsimp only[Act.put,List.setIfInBounds_toArray,List.set_cons_zero,List.set_cons_succ]
   refine ay 3 fun K hK=>?_;go_simp;refine(C2.out _ h7.at h8.at).mono ?_;rintro e T ⟨c2,U,rfl,lc,ld,Q,L,hb⟩;dsimp only;have RG:=ak.mk hb;clear hb;refine hK.out _ _ (m.out _ (aL _ _)) (fun hHeld=>?_);clear hK K
   try dsimp only[Act.put,List.setIfInBounds_toArray,List.set_cons_zero,List.set_cons_succ]
   refine ay 5 fun K hK=>?_;go_simp;refine(C3.out _ h5.at h6.at).mono ?_;rintro e wC ⟨J,f2,rfl,le,lf,O,of,hb⟩;dsimp only;have RH:=ak.mk hb;clear hb;refine hK.out _ _ (m.out _ (aL _ _)) (fun hHeld=>?_);clear hK K
   try dsimp only[Act.put,List.setIfInBounds_toArray,List.set_cons_zero,List.set_cons_succ]
   refine oA 6 42 ?_;refine ay 8 fun K hK=>?_;rename World=>wN;obtain⟨q0,Y,q2,X,q4,q5⟩:=DY (l.at (w':=wN));have y0:=(l.at (w':=wN)).frozen 0;have y1:=(l.at (w':=wN)).frozen 1;have y2:=(l.at (w':=wN)).frozen 2;have y3:=(l.at (w':=wN)).frozen 3;have y4:=(l.at (w':=wN)).frozen 4;have y5:=(l.at (w':=wN)).frozen 5
   skip
   go_simp;refine hK.out _ _ (m.out _ (xJ (aL y wN) aH _ _ _ _ _ _)) (fun hHeld=>?_);clear hK K
   try dsimp only[Act.put,List.setIfInBounds_toArray,List.set_cons_zero,List.set_cons_succ]
   have n1:=bV ob.lt (aZ (aH (w:=wA)) ld);have n2:=bV L.lt (aZ (aH (w:=T)) lf);refine aO ?_
   go_wp2_with fail
   go_meet
   exact⟨_,a,b,c2,U,J,f2,rfl,(l.at (w':=wN)).Cf _ _ _ _ _ _,(nH _ _ _ _ _ _).kH (oa.at (w':=wN)) ((oa.at (w':=wN)).bP (l.at (w':=wN)) ah),(nH _ _ _ _ _ _).kH (ob.at (w':=wN)) ((ob.at (w':=wN)).bP (l.at (w':=wN)) ah),(nH _ _ _ _ _ _).kH (Q.at (w':=wN)) ((Q.at (w':=wN)).bP (l.at (w':=wN)) ah),(nH _ _ _ _ _ _).kH (L.at (w':=wN)) ((L.at (w':=wN)).bP (l.at (w':=wN)) ah),(nH _ _ _ _ _ _).kH (O.at (w':=wN)) ((O.at (w':=wN)).bP (l.at (w':=wN)) ah),(nH _ _ _ _ _ _).kH (of.at (w':=wN)) ((of.at (w':=wN)).bP (l.at (w':=wN)) ah),aZ aH la,aZ aH lb,aZ aH lc,aZ aH ld,aZ aH le,aZ aH lf,aH,n1,n2,xJ (aL y wN) aH _ _ _ _ _ _⟩
 case rest=>
  obtain⟨Z,a,b,c2,U,J,f,rfl,kS,oa,ob,Q,L,O,of,la,lb,lc,ld,le,lf,l0,n1,n2,hb⟩:=hcut;have Yt:=ak.mk hb;clear hb;have hcl:=fun ty=>WZ (P:=Tryz.prog) 26 65 ty Tryz.underlying26 aj of hv1 vs.length;have RJ:b≠f:=om;have n0:f≠Z:=of.bP kS ah;obtain⟨q0,Y,q2,X,q4,q5⟩:=DY kS;have Na:=(LZ (bs:=[f]) (g:=f) au (List.replicate vs.length (.int .i64 0)) 0 (Off.refl [f] wc)).blk (kG.at (w':=wc)) bD;obtain⟨t0,t1⟩:=fC Na
  go_wp2_with fail
  clear t0 t1 q0 Y q2 X q4 q5 hcl;have r:=LZ (bs:=[f]) (g:=f) au (List.replicate vs.length (.int .i64 0)) 0 (Off.refl [f] wc);have Zl:=of.clear;have ajq:=Fq (n:=w.heap.size) (g:=f) om (List.replicate vs.length (.int .i64 0)) 0 (aL w wc);generalize wc.setCells f 0 (List.replicate vs.length (.int .i64 0))=W at*;have Nb:∀g∈[b,f],w.heap.size<=g:=by intro g hg;simp at hg;omega
  have F7:∀g∈[f],w.heap.size<=g:=by intro g hg;simp at hg;omega
  have nf1:f≠a:=fun e=>by subst e;exact(oa.bP (cs:=ints vs) of ah) rfl
  have nf2:f≠c2:=fun e=>by subst e;exact(Q.bP (cs:=ints vs) of ah) rfl
  have nf3:f≠J:=fun e=>by subst e;exact(O.bP (cs:=ints vs) of ah) rfl
  have nb1:b≠a:=fun e=>by subst e;exact(oa.bP (cs:=ints xs) ob ah) rfl
  have nb2:b≠c2:=fun e=>by subst e;exact(Q.bP (cs:=ints xs) ob ah) rfl
  have nb3:b≠J:=fun e=>by subst e;exact(O.bP (cs:=ints xs) ob ah) rfl
  have nb0:b≠Z:=ob.bP kS ah;have Zm:=r.own oa (by simpa using nf1.symm);have obW:=r.own ob (by simpa using RJ);have ocW:=r.own Q (by simpa using nf2.symm);have odW:=r.own L bD;have oeW:=r.own O (by simpa using nf3.symm);have Zn:=r.blk kS (by simpa using n0.symm);have kWW:=r.blk (kW.at (w':=wc)) bD;have kXW:=r.blk (kX.at (w':=wc)) bD;have kGW:=r.blk (kG.at (w':=wc)) bD;have kRW:=r.blk (kR.at (w':=wc)) bD;have h1W:=r.qA h1 (h1.at (w':=wc)) F7;have h2W:=r.qA h2 (h2.at (w':=wc)) F7;have h6W:=r.qA h6 (h6.at (w':=wc)) F7;have h8W:=r.qA h8 (h8.at (w':=wc)) F7;rw[<-aje vs.length xs gs]at Zl;go_loopw [49] (fun i wr=>∃k:Nat,k<=gs.length/\i=.int .i64 k/\Off [b,f] W wr/\Own wr b 65 (upTo (fun p=>(kY gs vs).take p) xs (k*N))/\Own wr f 65 (tO vs.length xs gs k 0)/\Below w.heap.size w wr) (fun i _=>gs.length-(intOf i).toNat)
  case atStart=>exact⟨0,aS _,rfl,Off.refl _ _,by simpa[upTo]using obW,Zl,ajq⟩
  case round=>
   obtain⟨k,hk,rfl,hO,o1,o2,hbel⟩:=hrel;have RL:=hO.blk Zn bD;have I:=hO.blk kRW bD;by_cases hlt:k<gs.length
   ·obtain⟨S,hS⟩:∃S,Hid (k*N=S):=⟨_,ae rfl⟩;rw[hS.out]at o1;have F6:k<M:=by rw[<-I8.out];exact hlt
    have hend:S+N<=xs.length:=by rw[rq.out,<-hS.out,<-Bl];exact qV _ F6
    have I9:=hO.blk kWW bD;have kXr:=hO.blk kXW bD;have r1:=hO.qA h1 h1W Nb;have RN:=hO.own Zm bD;obtain⟨b8,o8,g,rfl,hb8,hc8,RO⟩:=(hO.qA h8 h8W Nb).get hlt;have hgi:=hg.out g (aK RO.out);have CL1:=ae fun(w':World) (h:Rd w' A [(M:Int),(N:Int)])=>RD A bx ox c d M N k S xs w' hd hM hN hN1 rq hx6 F6 hS h;have Zo:=ae fun(w':World) (h:Rd w' (some ⟨a,0,none⟩) [(M:Int),(N:Int)])=>RD (some ⟨a,0,none⟩) b 0 2 xs.length M N k S xs w' (az _) hM hN hN1 rq hx6 F6 hS h;rw[fo]at Zo
    go_wp2_with fail
    have m:Hid (∀w':World,Below (wr).heap.size (wr) w'->w'.cell? ⟨w.heap.size,0,none⟩=some (.slice A 2 c)/\w'.cell? ⟨w.heap.size,1,none⟩=some (.slice (some ⟨bx,ox,none⟩) xs.length d)/\w'.cell? ⟨Z,0,none⟩=some (.slice a 2 2)/\w'.cell? ⟨Z,1,none⟩=some (.slice b xs.length xs.length)):=ae (fun w' u=>⟨(I9.keep u).cell 0,(I9.keep u).cell 1,(RL.keep u).cell 0,(RL.keep u).cell 1⟩);refine wp_region_held_drew (S:=fun w'=>w'.cell? ⟨w.heap.size,0,none⟩=some (.slice A 2 c)/\w'.cell? ⟨w.heap.size,1,none⟩=some (.slice (some ⟨bx,ox,none⟩) xs.length d)/\w'.cell? ⟨Z,0,none⟩=some (.slice a 2 2)/\w'.cell? ⟨Z,1,none⟩=some (.slice b xs.length xs.length)) aj (m.out _ (aL _ _)) (fun _=>?_);refine Xa (fun wD pwD=>?_);have hHeld:=m.out wD (aL _ _);refine oA 0 54 ?_;refine oA 1 55 ?_;refine oA 3 57 ?_;refine oA 4 58 ?_;refine oA 5 59 ?_;refine ay 2 fun K hK=>?_;go_simp;refine(CL1.out _ r1.at).mono ?_;rintro e wA ⟨rfl,hb⟩;dsimp only;have Zk:=ak.mk hb;clear hb;refine hK.out _ _ (m.out _ (aL _ _)) (fun hHeld=>?_);clear hK K
    try dsimp only[Act.put,List.setIfInBounds_toArray,List.set_cons_zero,List.set_cons_succ]
    refine ay 6 fun K hK=>?_;go_simp;refine(Zo.out _ RN.rd.at).mono ?_;rintro e T ⟨rfl,hb⟩;dsimp only;have RG:=ak.mk hb;clear hb;refine hK.out _ _ (m.out _ (aL _ _)) (fun hHeld=>?_);clear hK K
    try dsimp only[Act.put,List.setIfInBounds_toArray,List.set_cons_zero,List.set_cons_succ]
    refine oA 7 13 ?_;refine oA 8 14 ?_;refine aO ?_;clear hHeld m;have o1B:=o1.at (w':=T);have o2B:=o2.at (w':=T);have hOB:=hO.below (aL wr T);have ajK:=dS hbel (aL wr T);obtain⟨p0,p1⟩:=fC (kXr.at (w':=T))
    go_wp2_with fail
    clear p0 p1;go_loopw [64] (fun i wq=>∃j:Nat,j<=vs.length/\i=.int .i64 j/\Off [b,f] W wq/\Own wq b 65 (upTo (fun p=>(kY gs vs).take p) xs (S+j))/\Own wq f 65 (tO vs.length xs gs k j)/\Below w.heap.size w wq) (fun i _=>vs.length-(intOf i).toNat)
    case atStart=>exact⟨0,aS _,rfl,hOB,o1B,o2B,ajK⟩
    case round=>
     obtain⟨j,hj,rfl,RP,m1,m2,hbj⟩:=hrel;by_cases hlj:j<vs.length
     ·obtain⟨b6,o6,v,rfl,hb6,hc6,Zp⟩:=(RP.qA h6 h6W Nb).get hlj;have hvi:=hv.out v (aK Zp.out);have hjN:j<N:=by rw[<-FZ.out];exact hlj
      obtain⟨x,V⟩:∃x,Hid (xs[S+j]?=some x):=⟨_,ae (aW om)⟩;have hxi:=hx.out x (aK V.out);have HXK:Hid (xs[k*vs.length+j]?=some x):=ae (by rw[FZ.out,hS.out];exact V.out);have xK:Hid (((kY gs vs).take (S+j)).length=S+j):=ae (by rw[dO,R.out];omega);have HBA:Hid ((kY gs vs).take (S+j+1)=(kY gs vs).take (S+j)++[dI g v]):=ae (ajg (by rw[<-hS.out,<-FZ.out];exact ai9 RO.out Zp.out));have u1:=m1.cell (FX (f:=fun p=>(kY gs vs).take p) xK.out V.out);have u2:=m1.frozen (S+j);have hO2:=RP.aF (g:=b) au (S+j) (.int .i64 (dI g v));have M1:=ae (m1.aF (S+j) (dI g v));rw[FY (f:=fun p=>(kY gs vs).take p) xK.out HBA.out V.out]at M1;have M2:=m2.far (p:=⟨b,S+j,none⟩) (by exact RJ.symm) (.int .i64 (dI g v));have B2:=hbj.setCell (p:=⟨b,S+j,none⟩) (by show w.heap.size<=b;omega) (.int .i64 (dI g v));have t5:=(hO2.blk Zn bD).cell 5;have u3:=M2.cell (ajb (k:=k) hlj);have u4:=M2.frozen j;have u5:(wr.setCell ⟨b,S+j,none⟩ (.int .i64 (dI g v))).cell? ⟨bx,ox+S+j,none⟩=some (.int .i64 x):=by rw[C8];exact(hO2.qA h2 h2W Nb).all V.out
      have CM:=ae (Rh (Ig x g (wr.setCell ⟨b,S+j,none⟩ (.int .i64 (dI g v))).drew hxi hgi));have CA:=ae (Rh (Dp (qI vs.length xs gs j k) (dI x g) (wr.setCell ⟨b,S+j,none⟩ (.int .i64 (dI g v))).drew (Zi _ _ _ _ _) (xm hxi hgi)));have HXS:=ae (ajc hlj HXK.out RO.out);have M3:=M1.out.far (p:=⟨f,j,none⟩) (by exact RJ) (.int .i64 (dQ (qI vs.length xs gs j k) (dI x g)));have M4:=M2.aF j (dQ (qI vs.length xs gs j k) (dI x g));rw[HXS.out]at M4;have hO4:=hO2.aF (g:=f) au j (.int .i64 (dQ (qI vs.length xs gs j k) (dI x g)));have B4:=B2.setCell (p:=⟨f,j,none⟩) (by show w.heap.size<=f;omega) (.int .i64 (dQ (qI vs.length xs gs j k) (dI x g)))
      go_wp2_with fail
      refine(Ig g v wr hgi hvi).mono ?_;rintro e w' ⟨rfl,rfl⟩
      go_upto_region 13 with fail
      clear u1 u2;generalize wr.setCell ⟨b,S+j,none⟩ (.int .i64 (dI g v))=wz at*;refine wp_region_still_tail 17 aj aj ?_;change wpStill _ _ (wz).drew _ _ _;simp only[mH,jr,qw,pF]
      iterate 15 still_step
      still_call CM.out
      still_call CA.out
      repeat still_step
      refine qY ?_
      go_wp2_with fail
      go_roundw
      case rel=>exact⟨j+1,om,by go_num,hO4.drew,M3.drew,M4.drew,B4.drew⟩
      case measure=>simp[intOf];omega
     ·have e:j=vs.length:=om;subst e;rw[ajd]at m2;have eS:S+vs.length=(k+1)*N:=by rw[FZ.out,Bl,hS.out]
      rw[eS]at m1;clear eS
      go_wp2_with fail
      go_roundw
      case rel=>exact⟨k+1,om,by go_num,RP,m1,m2,hbj⟩
      case measure=>simp[intOf];omega
   ·have e:k=gs.length:=om;subst e;rw[ajf]at o2;have eW:upTo (fun p=>(kY gs vs).take p) xs (gs.length*N)=kY gs vs:=by
     rw[I8.out,<-rq.out,upTo,Ff,oV,<-R.out,jq]
    rw[eW]at o1;have RQ:Hid ((wm vs.length xs gs).length=vs.length):=ae (by simp[wm]);have RN:=hO.own Zm bD;have ocr:=hO.own ocW bD;have odr:=hO.own odW bD;have oer:=hO.own oeW bD;clear eW;obtain⟨q0,Y,q2,X,q4,q5⟩:=DY RL;obtain⟨t0,t1,t2,t3,t4,t5⟩:=DY I;have y0:=I.frozen 0;have y1:=I.frozen 1;have y2:=I.frozen 2;have y3:=I.frozen 3;have y4:=I.frozen 4;have y5:=I.frozen 5
    go_wp2_with fail
    have k3:=I.Cf (.slice a 2 2) (.slice b xs.length xs.length) (.slice c2 1 1) (.slice U gs.length gs.length) (.slice J us.length us.length) (.slice f vs.length vs.length);have B3:=xJ hbel (p:=w.heap.size+1+1+1+1) om (.slice a 2 2) (.slice b xs.length xs.length) (.slice c2 1 1) (.slice U gs.length gs.length) (.slice J us.length us.length) (.slice f vs.length vs.length);have X3:=nH (w:=wr) (p:=w.heap.size+1+1+1+1) (.slice a 2 2) (.slice b xs.length xs.length) (.slice c2 1 1) (.slice U gs.length gs.length) (.slice J us.length us.length) (.slice f vs.length vs.length);clear q0 Y q2 X q4 q5 t0 t1 t2 t3 t4 t5;obtain⟨q0,Y,q2,X,q4,q5⟩:=DY k3;refine bM (v:=.tuple #[.agg #[.slice a 2 2,.slice b xs.length xs.length,.slice c2 1 1,.slice U gs.length gs.length,.slice J us.length us.length,.slice f vs.length vs.length],(0:Int)]) (by simp[results,Tryz.results105,go_sem,q0,Y,q2,X,q4,q5]) rfl ?_;refine⟨some ⟨a,0,none⟩,2,some ⟨b,0,none⟩,xs.length,some ⟨c2,0,none⟩,1,some ⟨U,0,none⟩,gs.length,some ⟨J,0,none⟩,us.length,some ⟨f,0,none⟩,vs.length,by rw[R.out,RQ.out];rfl,aG.sZ (X3.kH RN om) om au,?_,aG.sZ (X3.kH ocr om) om au,aG.sZ (X3.kH odr om) om om,aG.sZ (X3.kH oer om) om om,?_,B3⟩
    ·have:=aG.sZ (B:=w.heap.size) (X3.kH o1 om) om (by rw[R.out];omega);rw[R.out]at this;exact this
    ·have:=aG.sZ (B:=w.heap.size) (X3.kH o2 om) om (by rw[RQ.out];omega);rw[RQ.out]at this;exact this
end
structure y7(y1 y0 u d q r:Int):Prop where
 sum:q*y1+r=u
 low:(u*4294967296+d)/(y1*4294967296+y0)<=q
 r0:0<=r
 q0:0<=q
 high:q<=4294967298
section
variable{y1 y0 u d q r:Int}
theorem Ja(b:2147483648<=y1)(e:0<=y0)(hu:u<y1*4294967296+y0)(hd:d<4294967296):
  (u*4294967296+d)/(y1*4294967296+y0)<4294967296:=by
 apply Hq om;omega
theorem Nc(z:2147483648<=y1)(B:y1<4294967296)(l:0<=y0)(C:y0<4294967296)(j:0<=u)(hu:u<y1*4294967296+y0)(m:0<=d)(hd:d<4294967296):
  y7 y1 y0 u d (u/y1) (u-u/y1*y1):=by
 have e:=Wy u y1;have r0:=Lf u (b:=y1) om;have r1:=K6 u (b:=y1) om;have q0:0<=u/y1:=yE j om;generalize hq:u/y1=q at*;generalize u%y1=r at*;have D:q*y1=y1*q:=sH _ _;refine⟨om,?_,om,q0,?_⟩
 ·
  apply Int.le_of_lt_add_one;apply Hq om;have E:(q+1)*(y1*4294967296+y0)=(y1*q)*4294967296+y1*4294967296+(q+1)*y0:=by
   rw[PN,<-uw,xh,LA,sH q y1,xh]
  have F:0<=(q+1)*y0:=vP om l;omega
 ·
  by_cases y:q<=4294967298
  ·exact y
  ·exfalso;have:4294967299*y1<=q*y1:=K5 om om;omega
theorem Jb(h:y7 y1 y0 u d q r)(b:2147483648<=y1)(j:0<=y0)(ht:q*y0<=4294967296*r+d):q=(u*4294967296+d)/(y1*4294967296+y0):=by
 refine Int.le_antisymm ?_ h.low;apply(Lm om).2;have e:q*(y1*4294967296+y0)=q*y1*4294967296+q*y0:=by rw[PN,<-uw]
 have:=h.sum;omega
theorem Cg(h:y7 y1 y0 u d q r)(b:2147483648<=y1)(j:0<=y0)(hu:u<y1*4294967296+y0)(hd:d<4294967296)(ht:4294967296<=q\/4294967296*r+d<q*y0):
  (u*4294967296+d)/(y1*4294967296+y0)<=q-1:=by
 have l:=Ja b j hu hd;rcases ht with ht|ht
 ·omega
 ·have:(u*4294967296+d)/(y1*4294967296+y0)<q:=by
   apply Hq om;have e:q*(y1*4294967296+y0)=q*y1*4294967296+q*y0:=by rw[PN,<-uw]
   have:=h.sum;omega
  omega
theorem Ch(h:y7 y1 y0 u d q r)(e:2147483648<=y1)(b:0<=(u*4294967296+d)/(y1*4294967296+y0))(hm:(u*4294967296+d)/(y1*4294967296+y0)<=q-1):y7 y1 y0 u d (q-1) (r+y1):=by
 refine⟨?_,hm,?_,om,?_⟩
 ·have:=h.sum;rw[WO,LA];omega
 ·have:=h.r0;omega
 ·have:=h.high;omega
theorem Ci(h:y7 y1 y0 u d q r)(e:2147483648<=y1)(b:0<=y0)(l:y0<4294967296)(j:0<=d)(hq:q<=4294967297)(hr:4294967296<=r):q=(u*4294967296+d)/(y1*4294967296+y0):=by
 apply Jb h e b;have:q*y0<=4294967297*4294967295:=yI hq om b om;omega
end
theorem ajS{hi lo y D E:Int}(e:0<D)(hE:0<E)(b:D*E=18446744073709551616)(j:0<=hi)(B:hi<y)(l:0<=lo)(C:lo<=18446744073709551615)(F:y*D<=18446744073709551615):
  0<=hi*D/\hi*D<=18446744073709551615/\0<=lo/E/\lo/E<D/\0<=hi*D+lo/E/\hi*D+lo/E<y*D/\
   (hi*18446744073709551616+lo)*D=(hi*D+lo/E)*18446744073709551616+lo*D%18446744073709551616:=by
 have m:0<=hi*D:=vP j om;have r:(hi+1)*D<=y*D:=K5 om om;rw[xh,LA]at r;have a3:0<=lo/E:=yE l om;have a4:lo/E<D:=by
  apply Hq hE;omega
 refine⟨m,om,a3,a4,om,om,?_⟩;have u:lo*D/18446744073709551616=lo/E:=by
  rw[<-b,sH D E,Wv _ _ e]
 have z:=Wy (lo*D) 18446744073709551616;rw[u]at z;rw[xh,uw,sH 18446744073709551616 D,<-uw];omega
theorem ajT{N y D u L b q0 v v2:Int}(m:0<D)(r:0<y)(hN:N*D=u*18446744073709551616+L)
  (C:b*(y*D)+v=u*4294967296+L/4294967296) (E:q0*(y*D)+v2=v*4294967296+L%4294967296) (j:0<=v2) (l:v2<y*D):
  b*4294967296+q0=N/y/\v2/D=N%y:=by
 have e:N*D=(b*4294967296+q0)*(y*D)+v2:=by
  have F:(b*4294967296+q0)*(y*D)=b*(y*D)*4294967296+q0*(y*D):=by
   rw[xh,uw,sH 4294967296 (y*D),<-uw]
  have:L=L/4294967296*4294967296+L%4294967296:=om;omega
 generalize b*4294967296+q0=q at*;have z:0<y*D:=Int.mul_pos r m;have hq:N*D/(y*D)=q:=by
  rw[e,WN,aeA _ _ om,Ws j l,Pp]
 rw[Wv _ _ m]at hq;refine⟨hq.symm,?_⟩;have B:v2=(N-q*y)*D:=by rw[WO,uw];omega
 rw[B,Int.mul_ediv_cancel _ om,P7,hq,sH]
theorem wu{T Y q:Int}(hq:q=T/Y)(j:0<Y):0<=T-q*Y/\T-q*Y<Y:=by
 subst hq;have e:=P7 T Y;rw[sH]at e;have a:=Lf T (b:=Y) om;have b:=K6 T j;omega
theorem Nf{u y1:Int}(j:0<=u)(l:1<=y1):0<=u/y1*y1/\u/y1*y1<=u/\u-u/y1*y1<y1:=by
 have e:=P7 u y1;rw[sH]at e;have a:=Lf u (b:=y1) om;have b:=K6 u (b:=y1) om;exact⟨vP (yE j om) om,om,om⟩
theorem ajU(s:Nat)(h:s<=63):(2:Int)^s*2^(64-s)=18446744073709551616:=by
 rw[<-WQ,show s+(64-s)=64 from om];rfl
end Go.Proofs.YtmkjnlifimffkaaGreat
