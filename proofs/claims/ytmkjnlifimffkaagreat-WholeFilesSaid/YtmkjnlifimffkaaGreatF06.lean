/- Lemmas. -/
import Derived.Test.YtmkjnlifimffkaaGreatF05
namespace Go.Proofs.YtmkjnlifimffkaaGreat
open Go.RowKit Tryz
set_option linter.all false
set_option maxRecDepth 100000
set_option maxHeartbeats 0
variable{p u w' w1:World}{c c' d g i j m r:Nat}{a':qn}{v':cB}{bs bs':List fu}{A A':Option Addr}{h y z:Int}{xs zs:List Int}
section
variable{w:World}{B k n t:Nat}{a:qn}{v:cB}{b:fu}{x:Value}
def cQ.aaO(l:cQ w B r a v)(D:a.Ab=some ⟨g,0,none⟩)(hi:v.bs[i]?=some b):cQ (w.setCell (g,i*3+1) (t:Int)) B r a {v with bs:=v.bs.set i ⟨b.h,t,b.wd⟩}:=by
 obtain⟨p1,I,F⟩:=l.apart;have C:AF a.Ab g:=by rw[D];exact⟨_,rfl,rfl⟩
 have hb:=l.bs;rw[D]at hb;have G:(v.bs.set i ⟨b.h,t,b.wd⟩).length=v.bs.length:=ej ..;refine⟨?_,?_,?_,?_,l.hr,l.hq⟩
 .have:iR a {v with bs:=v.bs.set i ⟨b.h,t,b.wd⟩}=iR a v:=by dsimp only[iR];rw[G]
  rw[this];exact l.hd.a9 (dF (F g C).1) _
 .exact l.cs.same λE e=>bm w ⟨g,_,none⟩ _ _ λJ=>(I E.block ⟨E,e,rfl⟩).2.2 (by rw[show E.block=g from J];exact C)
 .show aI _ _ _ _ _ _ (v.bs.set i ⟨b.h,t,b.wd⟩).length (gN (v.bs.set i ⟨b.h,t,b.wd⟩))
  rw[G,D,Px hi];exact hb.EE _
 .exact l.mp.same (bm w ⟨g,_,none⟩ _ _ (dF (F g C).2))
def L5{bs:List fu}(hi:bs[i]?=some b)(t):(((bs.set i ⟨b.h,t,b.wd⟩).take (i+1)).map (·.wd)).sum=((bs.take i).map (·.wd)).sum+b.wd:=by
 have l:=(a5.1 hi).1;have e:(bs.set i ⟨b.h,t,b.wd⟩).take (i+1)=bs.take i++[⟨b.h,t,b.wd⟩]:=by
  rw[fb,h0 l,vO (an i)];rfl
 rw[e];simp
def EN[pw:aF p w](hM:cQ w p.1.size r a v)(hv:bU v)(sr:v.mv<=1000000000000):() 245 #[.pointer r] w (λe w'=>e=.returned (.tuple #[])/\∃v',Hx (cQ w' p.1.size r a v')/\Hx (mr v v')/\Hx (v'.bs.length=v.bs.length)/\Hx (dA v'.bs v'.bs.length=v.lv)/\Hx (v'.mv=v.mv+1)/\Hx (Kf (a.F r) (a.F r) w w')):=by
 have CC:=@ct;have hlen:=hv.lens;obtain⟨n,hn⟩:=lh v.bs.length;have HN:=ae hn;rw[hn]at hlen;have HV:=ae hv;have HQ:=ae hM;have c2:Cl w r 2 (.slice a.Ab n a.cb):=⟨by rw[hM.hd.cell 2,<-hn];rfl⟩;have Yb:Old r w:=⟨hM.hd.lt⟩;clear hM hv hn
 go_in
 go_wp2_with fail
 go_loopw [2,10] (λs x wr=>∃(i t:Nat) (l:cB),i<=n/\s=.int .i64 (t:Int)/\x=.int .i64 (i:Int)/\Hx (cQ wr p.1.size r a l)/\Hx (mr v l)/\Hx (l.bs.length=n)/\Hx (dA l.bs i=t)/\Hx (t=((l.bs.take i).map (·.wd)).sum)/\Hx (l.mv=v.mv)/\Hx (Kf (a.F r) (a.F r) w wr)/\aj wr p) (λ_ x _=>n-(intOf x).toNat)
 case atStart=>exact⟨0,0,v,aT _,rfl,rfl,HQ,ae (mr.refl HV.o),HN,ae rfl,ae aG,ae rfl,ae (Kf.refl _ _),⟨pw.st⟩⟩
 case round=>
  obtain⟨i,t,l,hi,rfl,rfl,C,J,E,L6,HP,tz,HKv,hpr⟩:=hrel;clear c2 Yb;have Yc:∀k,wr.frozen? ⟨r,k,none⟩=false:=λk=>C.o.hd.frozen k;have c2:Cl wr r 2 (.slice a.Ab n a.cb):=⟨by rw[C.o.hd.cell 2,<-E.o];rfl⟩;have Yd:Old r wr:=⟨C.o.hd.lt⟩;by_cases bK:i<n
  .obtain⟨b,hb⟩:∃b,l.bs[i]?=some b:=⟨_,bc (by rw[E.o];exact bK)⟩;have L:=J.o.ok;obtain⟨g,hA,c10,UD,UE⟩:=C.o.al hb;obtain⟨G,Ye,sc,l1,l2,l3,l4,l5,aaP⟩:=C.o.row L hb;have L7:t<=b.fr:=by rw[<-L6.o];exact L.lay.CL hb
   have c1:Cl wr r 1 (.slice G l.cs.length a.cc):=⟨by rw[C.o.hd.cell 1,<-Ye];rfl⟩;have og1:Old g wr:=⟨cE UD.eq⟩;have HB:=ae hb;have UO:=ae L;have HAB:=ae hA;have Yf:=ae Ye;have SC:=ae sc;have q3:Hx ((cont l.cs b).length=b.wd):=ae (ig l3);have HT:Hx (t+b.wd<=l.cs.length):=ae om;have PJ:=ae L7;have UP:Hx ((l.mp.map (·.1)).Nodup):=ae L.uq;have EO:Hx (b.h∈l.mp.map (·.1)):=ae (bC.2 ⟨_,L.zR b (aC hb),rfl⟩);have aaQ:∀W:World,(Instr.slice 26 (.slice G l.cs.length a.cc) (some (.int .i64 (t:Int))) (some (.int .i64 ((t:Int)+(b.wd:Int)))) none).run prog W=.ok (.slice (some ⟨G,t,none⟩) b.wd (a.cc-t)) W:=λW=>by
    have hso:∀W,(sizeOf (prog.elem 26)).run prog W=.ok 1 W:=λW=>by
     obtain⟨ii,e1,e2⟩:=bD.1 (show(prog.info? (prog.elem 26)).map (·.size)=some 1 from by kernel_rfl);simp[sizeOf,typeInfo,e1,e2]
    rw[lR W 26 (some ⟨G,0,none⟩) l.cs.length a.cc aq .i64 .i64 (t:Int) ((t:Int)+(b.wd:Int)) om om om,hso];have e1:((t:Int)+(b.wd:Int)).toNat=t+b.wd:=by omega
    have e2:¬a.cc=t:=om;have e3:t+b.wd-t=b.wd:=om;simp[Result.andThen,sliced,e1,e2,e3,bQ]
   have UA:IntKind.i64.wrap ((t:Int)+(b.wd:Int))=(t:Int)+(b.wd:Int):=by rw[aV];omega
   have hw2:IntKind.i64.wrap ((b.fr:Int)+(b.wd:Int))=(b.fr:Int)+(b.wd:Int):=by rw[aV];omega
   rw[hA]at c2;have i1:(i:Int)<(n:Int):=by omega
   clear hb L hA Ye sc l1 l2 l3 l4 l5 L7
   go_upto_region 5 with fail
   refine aR p (λw9=>Cl w9 r 1 (.slice G l.cs.length a.cc)/\Cl w9 g (i*3+1) (b.fr:Int)/\Cl w9 g (i*3+2) (b.wd:Int)) aq ⟨ao,ao,ao⟩ (λN _=>?_);refine bl 0 ?_;refine bl 1 ?_;refine bl 2 ?_;refine bl 3 ?_;refine bl 4 ?_;refine bl 5 ?_;refine bl 6 ?_;refine bl 7 ?_;refine bl 8 ?_;refine bl 9 ?_;refine bl 10 ?_;refine bl 11 ?_;refine bl 12 ?_;refine bl 13 ?_;refine bl 14 ?_;refine bl 15 ?_;refine bl 16 ?_;refine bl 17 ?_;refine bl 18 ?_;refine bl 19 ?_;refine bl 20 ?_;refine bl 21 ?_;refine bl 22 ?_;refine bl 23 ?_;refine bl 24 ?_;refine bl 25 ?_;refine bl 26 ?_;refine bl 27 ?_;refine bl 28 ?_;refine bl 29 ?_;refine aM 30 λK hK=>?_;have O:=C.o.at (w':=N);have P:=O.cs;rw[Yf.o]at P;obtain⟨X,C1,Yg⟩:=KL (ad:=⟨G,b.fr,none⟩) (t:=t) (xs:=cont l.cs b) P (λj z hj=>(SC.o.rd.below (a7 wr N)).all hj|>λh=>by rw[bQ];exact h) (by rw[q3.o];exact HT.o);rw[q3.o]at C1;have U:AF a.Ac G:=by rw[Yf.o];exact⟨_,rfl,rfl⟩
   have hgr:G≠r:=(O.apart.2.1 G U).1;have CY:p.1.size<=G:=(O.lt G (.inr (.inr (.inl U)))).1;have Cz:G≠g:=λe=>(O.apart.2.1 G U).2.2 (by rw[HAB.o,e];exact⟨_,rfl,rfl⟩);have M:=ae (O.cells Yf.o Yg (jL (by rw[q3.o];exact HT.o)));have xj:Hx (Kf (a.F r) (a.F r) w (N.setRow G X)):=ae ((HKv.o.trans (Kf.later _ (w:=wr))).trans (nM (.inr (.inr (.inl U))) X));refine eg rfl _ _ 26 26 rfl _ _ rfl rfl (C1 _ _ _) ?_;refine aL hK ?_ ⟨⟨⟨(a7 p N).os,(a7 p N).tape,(a7 p N).output,by rw[size_setRow];exact(a7 p N).size,λb hb=>by rw[ba om];exact(a7 p N).block b hb⟩⟩,⟨(dY (ba (dF hgr) X)).trans (Cl.eq (w:=N))⟩,⟨(dY (ba (dF Cz) X)).trans (Cl.eq (w:=N))⟩,⟨(dY (ba (dF Cz) X)).trans (Cl.eq (w:=N))⟩⟩;refine aZ ?_
   skip
   obtain⟨T,V⟩:=lg ({l with cs:=iE l.cs t (cont l.cs b)});rw[<-V]at M;obtain⟨W1,lE⟩:=lg (N.setRow G X);rw[<-lE]at M xj;have HS:T.bs[i]?=some b:=by rw[V];exact HB.o
   obtain⟨g2,Y,-,d11,-⟩:=M.o.al HS;obtain rfl:g2=g:=by have I:=HAB.o;rw[Y]at I;injection I with I;injection I
   have fg1:∀k,W1.frozen? ⟨g2,k,none⟩=false:=λk=>by
    have I:=M.o.bs;rw[Y]at I;obtain⟨cur,Yh,_⟩:=I.whole;simp[World.frozen?,Yh]
   have Yi:=ae Y;clear Y;rw[<-lE];have L8:=ae V;have xh:=ae HS;clear V HS lE c10 UD UE c1 c2 og1 Yc Yd aaQ aaP
   go_upto_region 7 with fail
   obtain⟨W2,Z⟩:=lg (W1.setCell (g2,i*3+1) (t:Int));have hM2:cQ W2 p.1.size r a {T with bs:=T.bs.set i ⟨b.h,t,b.wd⟩}:=by rw[Z];exact M.o.aaO Yi.o xh.o
   have Yj:AF a.Ab g2:=by rw[Yi.o];exact⟨_,rfl,rfl⟩
   have Q:=ae hM2;have kR:Hx (Kf (a.F r) (a.F r) w W2):=ae (by rw[Z];exact xj.o.ax (.inr (.inr (.inr Yj))) _);have Yk:Hx (g2≠a.q):=ae (M.o.apart.2.2 g2 Yj).2;have pW2:aj W2 p:=kR.o.prev λb hb=>(HQ.o.lt b hb).1;have PK:i<T.bs.length:=(a5.1 xh.o).1;obtain⟨g3,D,d20,-,d22⟩:=Q.o.al (i:=i) (b:=⟨b.h,t,b.wd⟩) (by show(T.bs.set i _)[i]?=_;rw[h0 PK]);obtain rfl:g3=g2:=by rw[Yi.o]at D;injection D with D;injection D with D;exact D.symm
   have d23:Cl W2 r 3 (.map (some a.q)):=⟨Q.o.hd.cell 3⟩;have og2:Old g3 W2:=⟨cE d20.eq⟩;dsimp only at d20 d22;have UP:Hx (((({T with bs:=T.bs.set i ⟨b.h,t,b.wd⟩}:cB).mp).map (·.1)).Nodup):=ae (by rw[L8.o];exact UP.o);have EO:Hx (b.h∈(({T with bs:=T.bs.set i ⟨b.h,t,b.wd⟩}:cB).mp).map (·.1)):=ae (by rw[L8.o];exact EO.o);have aaR:=ae D;have PL:=ae PK;rw[<-Z];clear Z hM2 Yj d11 fg1 D PK;refine aR p (λw9=>Cl w9 r 3 (.map (some a.q))/\Cl w9 g3 (i*3) (b.h:Int)) aq ⟨ao,ao⟩ (λuy _=>?_);refine bp 0 ?_;refine bp 1 ?_;refine bp 2 ?_;refine bp 3 ?_;refine bp 4 ?_;refine bp 5 ?_;refine bp 6 ?_;refine bp 7 ?_;refine bp 8 ?_;refine aM 9 λK hK=>?_;obtain⟨W3,PM,EM,R,vf,S⟩:=(Q.o.at (w':=uy)).mp.Pw (k:=b.h) (z:=(t:Int)) UP.o EO.o;have Yl:=(Q.o.at (w':=uy)).PD EM R;have UM:=ae Yl;have q7:Hx (Kf (a.F r) (a.F r) w W3):=ae ((kR.o.trans (Kf.later _ (w:=W2))).trans (CZ (.inr (.inl rfl)) R vf S));have hpq:p.1.size<=a.q:=Q.o.hq;go_simp;refine aL hK ?_ ⟨⟨⟨S.os.trans (a7 p uy).os,S.tape.trans (a7 p uy).tape,S.output.trans (a7 p uy).output,by rw[vf];exact(a7 p uy).size,λb hb=>by rw[R b om];exact(a7 p uy).block b hb⟩⟩,⟨Yl.hd.cell 3⟩,⟨(dY (R g3 Yk.o)).trans (Cl.eq (w:=uy))⟩⟩;clear hK K PM EM R vf S Yl;refine aZ ?_
   skip
   have d32:Cl W3 g3 (i*3+2) (b.wd:Int):=by
    obtain⟨g4,hA4,-,-,e2⟩:=UM.o.al (i:=i) (b:=⟨b.h,t,b.wd⟩) (by show(T.bs.set i _)[i]?=_;rw[h0 PL.o]);obtain rfl:g4=g3:=by have I:=aaR.o;rw[hA4]at I;injection I with I;injection I
    exact e2
   go_wp2_with fail
   go_roundw
   case rel=>
    refine⟨i+1,t+b.wd,l.move i b t,om,by go_num,by go_num,?_,ae (J.o.trans (mr.move UO.o HB.o (dE L6.o) PJ.o)),ae ?_,ae ?_,ae ?_,tz,q7,q7.o.prev λb hb=>(HQ.o.lt b hb).1⟩
    .have I:=UM.o;rw[L8.o]at I;exact ae I
    .show(l.bs.set i _).length=n
     rw[ej];exact E.o
    .show dA (l.bs.set i _) (i+1)=t+b.wd
     exact kO (h0 (a5.1 HB.o).1)
    .show t+b.wd=(((l.bs.set i _).take (i+1)).map (·.wd)).sum
     rw[L5 HB.o,<-HP.o]
   case measure=>exact e6
  .obtain rfl:i=n:=om;have c9:Cl wr r 9 (l.mv:Int):=⟨C.o.hd.cell 9⟩;have c4:Cl wr r 4 (l.pk:Int):=⟨C.o.hd.cell 4⟩;have hw9:IntKind.i64.wrap ((l.mv:Int)+1)=((l.mv+1:Nat):Int):=by rw[tz.o,aV];omega
   go_wp2_with fail
   refine⟨rfl,.tuple #[],by simp[results,results245,go_sem],rfl,l.gi i (l.mv+1),?_,ae (J.o.trans (mr.gi J.o.ok (by rw[E.o];exact an _))),ae (by show l.bs.length=_;rw[E.o,HN.o]),ae ?_,ae (by show l.mv+1=_;rw[tz.o]),?_⟩
   .exact ae ((C.o.sk (v':=l.gi i l.mv) (i:=4) (x:=.int .i64 (i:Int)) (by rfl) rfl rfl rfl).sk (v':=l.gi i (l.mv+1)) (i:=9) (by rfl) rfl rfl rfl)
   .show dA l.bs l.bs.length=v.lv
    rw[E.o,L6.o,HP.o,<-E.o,dJ,<-J.o.lv];exact J.o.ok.lv.symm
   .exact ae ((HKv.o.ax (.inl rfl) _).ax (.inl rfl) _)
end
variable{cur:Array Value}
section
variable{w:World}{B k n t:Nat}
def l2(k):Builtin.zeroCells (Value.cells au) k=(List.replicate k (Value.int .i64 0)).toArray:=by
 apply lS;simp[Builtin.zeroCells,Value.cells];apply rZ
 .simp
 .intro i b e;simp[Nat.mod_one]
def vi(hg:w.heap[g]?=some (.cells cur 65 (0,0)))(y:cur.size=c)(hr:n+k<=c)(z:0<k)(C:k<=100000000)(l):
  (Builtin.append_ #[26,3] l #[(g,n,c),k]).run prog w=.ok (.slice g (n+k) c) (w.setRow g (cur.toList.take n++List.replicate k (Value.int .i64 0)++cur.toList.drop (n+k)).toArray):=by
 have⟨i,hi,fk⟩:=bD.1 (show(prog.info? 65).map (λi=>(i.zero,i.size,i.bytes))=some (some (.int .i64 0),1,8)from by kernel_rfl);simp only[dL]at fk;have⟨hz,hs,hb⟩:=fk;have hu:prog.underlying 26=some (.slice 65):=aq;have b:=Cw prog g n 65 (List.replicate k (Value.int .i64 0)) 0 cur w hg bY (λv hv=>by rw[iA hv];rfl);simp only[gE,fg]at b;have m:IntKind.i64.wrap (k:Int)=k:=by rw[aV];omega
 have r:¬((k:Int)<0):=by omega
 have u:¬(281474976710656<(k:Int)*8):=by omega
 have e:¬(k=0):=om;have j:=l2 k;simp[Builtin.append_,dU hu,dU underlying3,sizeOf,typeInfo,zeroValue,hi,hz,hs,hb,asInt,asIntOf,m,r,u,e,hr,j,bQ,b]
def L9(h:az w B 65 A c zs)(D:0<k)(M:zs.length+k<=100000000)(l:B<=w.1.size):
  ∃m E w',(∀b,(Builtin.append_ #[26,3] b #[.slice A zs c,k]).run prog w=.ok (.slice m (zs.length+k) E) w')/\az w' B 65 m E (zs++List.replicate k 0)/\cP A m w w':=by
 have⟨i,hi,fk⟩:=bD.1 (show(prog.info? 65).map (λi=>(i.zero,i.size,i.bytes))=some (some (.int .i64 0),1,8)from by kernel_rfl);simp only[dL]at fk;have⟨r,hs,hb⟩:=fk;have N:=h.gW;have F:(zs++List.replicate k 0).length=zs.length+k:=aG;by_cases hr:zs.length+k<=c
 .rcases h.form with⟨_,I,L⟩|⟨g,cur,rfl,l,hg,_,hm,J,ht⟩
  .subst L;omega
  .refine⟨_,_,_,λb=>vi hg J hr D om b,?_,d5 (eX.1 hg).1 _⟩;unfold az;rw[F];refine aI.mk' (k:=1) l (bH hg _) hr hm bY ?_;rw[eG,e9 bY,ht];simp
 .have e:(Builtin.firstCells i.size zs.length (.slice A zs c)).run prog w.drew=.ok (zs.map (Value.int .i64)).toArray w.drew:=by
   rw[hs];rcases h.form with⟨rfl,I,_⟩|⟨g,cur,rfl,l,hg,_,hm,J,ht⟩
   .subst I;exact run_firstCells_none w.drew 1 0 0 c
   .exact Ci w.drew 1 zs.length ⟨g,0,none⟩ zs.length c (zs.map (Value.int .i64)) aG (λj v K=>by
     rw[bj]at K;obtain⟨z,r,rfl⟩:=bD.1 K;rw[bQ];exact h.rd.all r)
  obtain⟨G,u⟩:=lg (grownCap w (zs.length+k) c 65);have y:zs.length+k<=G:=by rw[u];exact nA w _ _ _
  have C:G<=maxLen:=by rw[u];exact p0 w (zs.length+k) c 65 (by unfold maxLen;omega)
  refine⟨some ⟨w.1.size,0,none⟩,G,w.drew.alloc (.cells ((zs.map (Value.int .i64)).toArray++Builtin.zeroCells (Value.cells au) k++Builtin.zeroCells (Value.cells au) (G-(zs.length+k))) 65),λb=>?_,?_,cP.fresh ((aY _ _).drew.alloc (an _) _) (an _)⟩
  .have:=Lib.run_append_grow_zeros (P:=prog) w 26 3 b 65 i _ .i64 .i64 aq aq hi r A zs.length c (zs.map (Value.int .i64)) e k D (by rw[hs];decide) om om (by rw[hb];omega) (by rw[hb];exact Cr om om);rw[u];exact this
  .unfold az;rw[F,l2,l2];refine aI.mk' (k:=1) l (hx w.drew _) y C bY ?_;rw[eG];simp only[Cg];rw[e9 aG];simp
def HT(h:az w B 65 (some ⟨g,0,none⟩) c zs)(j:0<k)(ht:t+k<=zs.length){cap:Nat}:
  ∃X,(∀b,(Builtin.clear_ #[26] b #[.slice (some ⟨g,t,none⟩) k cap]).run prog w=.ok (.tuple #[]) (w.setRow g X))/\az (w.setRow g X) B 65 (some ⟨g,0,none⟩) c (iE zs t (List.replicate k 0)):=by
 rcases h.form with⟨l,_⟩|⟨F,cur,e,m,hg,r,hm,u,hv⟩
 .cases l
 cases e;have⟨i,hi,fk⟩:=bD.1 (show(prog.info? 65).map (λi=>(i.zero,i.size,i.bytes))=some (some (.int .i64 0),1,8)from by kernel_rfl);simp only[dL]at fk;obtain⟨y,hs,hb⟩:=fk;refine⟨(cur.toList.take t++List.replicate k (Value.int .i64 0)++cur.toList.drop (t+(List.replicate k (Value.int .i64 0)).length)).toArray,λb=>?_,?_⟩
 .exact l0 (P:=prog) (w:=w) (E:=65) (z:=.int .i64 0) (n:=k) (us:=List.replicate k (Value.int .i64 0)) (o:=t) 26 b aq (λW=>by simp[zeroValue,typeInfo,hi,y]) (by rw[l2]) (λv hv=>by rw[iA hv];rfl) j hg bY
 .have C:=jL (cs:=zs) (p:=t) (xs:=List.replicate k 0) (by simpa using ht);have D:cur.toList.length=c:=by simpa using u
  have:=aI.mk' (w:=w.setRow g (cur.toList.take t++List.replicate k (Value.int .i64 0)++cur.toList.drop (t+(List.replicate k (Value.int .i64 0)).length)).toArray) (E:=65) (k:=1) (n:=zs.length) (c:=c) (vs:=(iE zs t (List.replicate k 0)).map (Value.int .i64)) m (bH hg _) r hm bY (by
   rw[eG,fg,iE,cJ,cJ,jw,nz,<-hv,List.map_replicate,fg];rw[ez,dt om];rw[rT,bR bY];congr 1;rw[rS];congr 1;simp;omega)
  unfold az;rw[C];exact this
end
variable{e wd:Nat}
section
variable{w:World}{B k n:Nat}{a:qn}{v:cB}{b:fu}{x:Value}
def cQ.aaS(m:cQ w B r a v)(D:cP a.Ac A' w w')(hr:az w' B 65 A' c' zs):cQ (w'.setCell (r,1) (.slice A' zs c')) B r {a with Ac:=A',cc:=c'} {v with cs:=zs}/\Kf (a.F r) (({a with Ac:=A',cc:=c'}:qn).F r) w (w'.setCell (r,1) (.slice A' zs c')):=by
 obtain⟨p1,E,M⟩:=m.apart;have G:aB w' r 197 (iR a v):=D.al m.hd λl e u=>(E r ⟨l,e,u⟩).1 rfl;have I:aI w' B 311 3 a.Ab a.cb v.bs.length (gN v.bs):=m.bs.same λl e=>D.off _ (m.bs.lt l e) λJ N u=>(E l.block ⟨J,N,u⟩).2.2 ⟨l,e,rfl⟩;have K:fy w' a.q v.mp:=m.mp.same (D.off _ m.mp.lt λl e u=>(E a.q ⟨l,e,u⟩).2.1 rfl);have L:∀l,A'=some l->l.block≠r:=λl e u=>by
  obtain⟨_,_,O,C⟩:=hr.af ⟨l,e,u⟩;unfold aB at G;rw[G]at C;injection C with C;injection C with _ C;exact absurd C ak
 refine⟨⟨?_,?_,?_,?_,m.hr,m.hq⟩,?_⟩
 .exact G.ax 1 _
 .exact hr.same λl e=>bm w' ⟨r,1,none⟩ _ _ (L l e)
 .exact I.same λl e=>bm w' ⟨r,1,none⟩ _ _ (M l.block ⟨l,e,rfl⟩).1
 .exact K.same (bm w' ⟨r,1,none⟩ _ _ (dF p1))
 .refine((Kf.hD D).more (λb hb=>.inr (.inr (.inl hb))) (λb hb=>?_)).ax (.inl rfl) _;rcases hb with hb|hb|hb|hb
  .exact .inr (.inl (.inl hb))
  .exact .inr (.inl (.inr (.inl hb)))
  .exact .inl hb
  .exact .inr (.inl (.inr (.inr (.inr hb))))
def bU.few(hv:bU v):v.bs.length<=16777216:=by
 have C:v.bs.length<=(v.bs.map (·.wd)).sum:=by
  have:∀L:List fu,(∀b∈L,1<=b.wd)->L.length<=(L.map (·.wd)).sum:=by
   intro L
   induction L with
   |nil=>intro _;simp
   |cons x t e=>
    intro hL;have l:=hL x cm;have m:=e λy u=>hL y (dl _ u);simp only[dX,iz,dm];omega
  exact this _ λb hb=>(hv.lay.bd b hb).1
 have l:=hv.lv;have m:=hv.wZ;have D:=hv.cl;have E:=hv.cap;omega
def EP(W:ay){A:cD}{L c k:Nat}(C:A=some ⟨g,0,none⟩)(E:0<k)(F:e+k<=L)(G:L<=c):(Instr.slice 26 (A,L,c) (some (.int .i64 (e:Int))) (some (.int .i64 ((e:Int)+(k:Int)))) none).run prog W=.ok (.slice (some ⟨g,e,none⟩) k (c-e)) W:=by
 subst C;have l:∀W,(sizeOf (prog.elem 26)).run prog W=.ok 1 W:=λW=>by
  obtain⟨I,m,u⟩:=bD.1 (show(prog.info? (prog.elem 26)).map (·.size)=some 1 from by kernel_rfl);simp[sizeOf,typeInfo,m,u]
 rw[lR W 26 (some ⟨g,0,none⟩) L c aq .i64 .i64 (e:Int) ((e:Int)+(k:Int)) om om om,l];have m:((e:Int)+(k:Int)).toNat=e+k:=by omega
 have u:¬c=e:=om;have D:e+k-e=k:=om;simp[Result.andThen,sliced,m,u,D,bQ]
def PN[pw:aF p w](hM:cQ w p.1.size r a v)(hv:bU v)(h1:1<=wd)(h2:wd<=65536)(hl:v.lv+wd<=v.cap)(qo:v.nx<=1000000000000)(sr:v.mv<=1000000000000):
  () 201 #[.pointer r,wd] w (λe w'=>e=.returned (.tuple #[.int .i64 ((v.nx+1:Nat):Int),au])/\∃a' v',Hx (cQ w' p.1.size r a' v')/\Hx (ur v wd v')/\Hx (v'.mv<=v.mv+1)/\Hx (Kf (a.F r) (a'.F r) w w')):=by
 have CC:=@ct;have nN:=hv.wZ;have wW:=hv.cl;have C1:=hv.cap;have HV:=ae hv;have M:=ae hM;have c0:Cl w r 0 (.int .i64 (v.cap:Int)):=⟨hM.hd.cell 0⟩;have c6:Cl w r 6 (.int .i64 (v.lv:Int)):=⟨hM.hd.cell 6⟩;have Yb:Old r w:=⟨hM.hd.lt⟩;have d1:decide ((wd:Int)<1)=false:=by simp;omega
 have d2:decide ((65536:Int)<(wd:Int))=false:=by simp;omega
 have Ma:IntKind.i64.wrap ((v.cap:Int)-(v.lv:Int))=(v.cap:Int)-(v.lv:Int):=by rw[aV];omega
 have d3:decide ((v.cap:Int)-(v.lv:Int)<(wd:Int))=false:=by simp;omega
 have HU:Hx (p.1.size<=w.1.size):=ae pw.st.size;clear hM hv
 go_in
 go_upto_region 3 with fail
 refine am aq (λux _=>?_);refine qL [0,1,2,3,4,5,6,7,8,9,10] ?_;refine aZ ?_
 skip
 go_upto_if 35 with(go_at_call 244;refine(UN (p:=p) (wd:=wd) (M.o.at (w':=ux)) HV.o).mono ?_;rintro e u1 ⟨pk,i,ok,rfl,Mb,EQ,PI,hG⟩;have zU:=ae Mb;have oT:Hx (Kf (a.F r) (a.F r) w u1):=ae ((Kf.later _ (w:=w)).trans PI);have PO:=ae EQ;have aaT:(v.gi pk v.mv).mv<=1000000000000:=sr;have HW:Hx (bU (v.gi pk v.mv)):=ae (mr.gi HV.o EQ).ok;have su:aj u1 p:=oT.o.prev λb hb=>(M.o.lt b hb).1;clear Mb PI EQ)
 go_cut [6,7] (λs s7 wx=>∃(i:Nat) (l:cB),s=.int .i64 (i:Int)/\Hx (cQ wx p.1.size r a l)/\Hx (mr v l)/\Hx (l.mv<=v.mv+1)/\Hx (i<=l.bs.length)/\Hx (∀b,l.bs[i]?=some b->dA l.bs i+wd<=b.fr)/\Hx (dA l.bs i+wd<=l.cap)/\Hx (Kf (a.F r) (a.F r) w wx)/\aj wx p)
 case first=>
  cases ok
  .go_upto_region 8 with(go_at_call 245;refine(EN (p:=p) zU.o HW.o aaT).mono ?_;rintro e u2 ⟨rfl,l,G,Q,oU,vj,tz,kR⟩;have q8:aj u2 p:=(oT.o.trans kR.o).prev λb hb=>(M.o.lt b hb).1;obtain⟨m,hm⟩:∃m,l.bs.length=m:=⟨_,rfl⟩;have sw:=ae hm;have c2:Cl u2 r 2 (.slice a.Ab m a.cb):=⟨by rw[G.o.hd.cell 2,<-hm];rfl⟩;clear hm)
   go_wp2_with fail
   go_meet
   case rel=>
    have WM:l.cap=v.cap:=Q.o.cap;refine⟨m,l,rfl,G,ae ((mr.gi HV.o PO.o).trans Q.o),ae (dE tz.o),ae (dE sw.o.symm),ae λb hb=>?_,ae ?_,ae (oT.o.trans kR.o),ao⟩
    .have:=(a5.1 hb).1;rw[sw.o]at this;omega
    .have:=vj.o;rw[sw.o]at this;rw[this,WM];exact hl
  .go_wp2_with fail
   go_meet
   case rel=>
    obtain⟨g1,g2,g3⟩:=hG.o bA;exact⟨i,v.gi pk v.mv,rfl,zU,ae (mr.gi HV.o PO.o),ae (b9 _),ae g1,ae g2,ae g3,oT,ao⟩
 case rest=>
  obtain⟨i,l,rfl,zT,Q,tz,N,HG,HE,HK,pwc⟩:=hcut;have D:Hx (bU l):=ae Q.o.ok;have ER:Hx (l.nx=v.nx):=ae Q.o.nx;have aaU:Hx (l.lv=v.lv):=ae Q.o.lv;have Ym:l.cap<=16777216:=D.o.cap;have WN:l.bs.length<=16777216:=D.o.few;have WO:l.cs.length<=16777216:=aO D.o.cl Ym;have tu:=N.o;have aaV:Hx (i<=l.bs.length):=N;obtain⟨e,he⟩:=lh (dA l.bs i);have HX:=ae he;have hec:e+wd<=l.cap:=by rw[<-he];exact HE.o
  have HEC:=ae hec;obtain⟨L,hL⟩:=lh l.cs.length;have R:=ae hL;have c1:Cl wc r 1 (.slice a.Ac L a.cc):=⟨by rw[zT.o.hd.cell 1,<-hL];rfl⟩;have orc:Old r wc:=⟨zT.o.hd.lt⟩;have hwi:IntKind.i64.wrap ((i:Int)-1)=(i:Int)-1:=by rw[aV];omega
  have hwe:IntKind.i64.wrap ((e:Int)+(wd:Int))=(e:Int)+(wd:Int):=by rw[aV];omega
  obtain⟨z,hz⟩:=lh ((e:Int)+(wd:Int)-(L:Int):Int);have hwz:IntKind.i64.wrap ((e:Int)+(wd:Int)-(L:Int))=z:=by rw[aV,<-hz];omega
  have HZ:=ae hz;have aaW:Hx (L<=16777216):=ae (by rw[<-hL];exact WO);have ES:=ae WN;obtain⟨mo,Yn⟩:=lh (decide (0<z));clear he hz hL WO WN c0 c6 Yb
  go_upto_if 58 with(go_at_call 246;refine mv (kv zT D N rfl HX) λu3 _=>?_)
  go_cut [] (λwx=>∃I,Hx (cQ wx p.1.size r I {l with cs:=l.cs++List.replicate (e+wd-l.cs.length) 0})/\Hx (Kf (a.F r) (I.F r) w wx)/\aj wx p)
  case first=>
   cases mo
   .go_wp2_with fail
    go_meet
    case rel=>
     have h0:e+wd-l.cs.length=0:=by
      have h3:=of_decide_eq_false Yn;have:=HZ.o;have:=R.o;omega
     refine⟨a,ae ?_,ae (HK.o.trans (Kf.later _ (w:=wc))),aK⟩;rw[h0];have V:cQ _ p.1.size r a l:=zT.o.at (w':=u3);have U:({l with cs:=l.cs++List.replicate 0 0}:cB)=l:=by obtain⟨f1,f2,f3,f4,f5,f6,f7,f8,f9,f10⟩:=l;simp
     rw[U];exact V
   .obtain⟨k,hk⟩:∃k:Nat,z=(k:Int):=⟨z.toNat,by have:=nm Yn;omega⟩;subst hk;have HY:0<k:=by have:=nm Yn;omega
    have HKE:Hx (k=e+wd-L):=ae (by have:=HZ.o;omega);have hkL:L+k<=16777216:=by have:=HZ.o;omega
    have H0:p.1.size<=u3.1.size:=aO pwc.st.size (ai (w:=wc) (w':=u3));have u:Hx (cQ u3 p.1.size r a l):=ae zT.o.at;obtain⟨A',c',W2,Yo,ho,Yp⟩:=L9 u.o.cs HY (by rw[R.o];omega) H0;have hR:=u.o.aaS Yp ho;have hlen:(l.cs++List.replicate k 0).length=L+k:=by rw[a1,fg,R.o]
    rw[hlen]at hR;rw[R.o]at Yo;have HR:=ae hR;have HS:aB W2 r 197 (iR a l):=Yp.al u.o.hd λad e hx=>(u.o.apart.2.1 r ⟨ad,e,hx⟩).1 rfl;have X4:∀i,W2.frozen? ⟨r,i,none⟩=false:=λi=>HS.frozen i;have cr2:Cl W2 r 1 (.slice a.Ac L a.cc):=⟨by rw[HS.cell 1,<-R.o];rfl⟩;have HHP:=ae Yo;clear hR hlen Yp ho HS Yo
    go_wp2_with (at_builtin;refine Lib.wpList_append_run _ rfl _ _ 26 3 rfl _ _ rfl rfl _ _ (HHP.o _) ?_)
    go_meet
    case rel=>
     have k9:Kf (a.F r) (({a with Ac:=A',cc:=c'}:qn).F r) w (W2.setCell ⟨r,1,none⟩ (.slice A' (L+k) c')):=(HK.o.trans (Kf.later _ (w:=wc))).trans HR.o.2;refine⟨{a with Ac:=A',cc:=c'},ae ?_,ae k9,k9.prev λb hb=>(M.o.lt b hb).1⟩;rw[R.o,<-HKE.o];exact HR.o.1
  case rest=>
   obtain⟨I,G,kR,pw2⟩:=hcut;have xk:Hx (∀ad:Addr,True):=ae λ_=>bA;clear xk;have E:e+wd<=(l.cs++List.replicate (e+wd-l.cs.length) 0).length:=by simp;omega
   obtain⟨C2,zV⟩:=lg (l.cs++List.replicate (e+wd-l.cs.length) (0:Int));rw[<-zV]at E G;have aaX:C2.length<=16777216:=by have:=R.o;have:=aaW.o;rw[zV];simp;omega
   obtain⟨gc,PP⟩:∃gc,I.Ac=some ⟨gc,0,none⟩:=by
    rcases G.o.cs.form with⟨_,h0,_⟩|⟨g,cur,hA,_⟩
    .have h0':C2=[]:=h0;rw[h0']at E;simp at E;omega
    .exact⟨g,hA⟩
   have hcc:C2.length<=I.cc:=G.o.cs.gW;obtain⟨L2,PQ⟩:=lh C2.length;have UE:Cl wc r 1 (.slice (some ⟨gc,0,none⟩) L2 I.cc):=⟨by rw[G.o.hd.cell 1,<-PP,<-PQ];rfl⟩;rw[PQ]at E hcc aaX;have qZ:=λW=>EP W (A:=some ⟨gc,0,none⟩) (e:=e) rfl h1 E hcc;have ET:=G.o.cs;rw[PP]at ET;obtain⟨X,aaY,ho⟩:=HT (t:=e) (k:=wd) (cap:=I.cc-e) ET h1 (by show _<=C2.length;rw[PQ];exact E);have u:=ae (G.o.cells PP ho (jL (by rw[fg];show _<=C2.length;rw[PQ];exact E)));have q7:Hx (Kf (a.F r) (I.F r) w (wc.setRow gc X)):=ae (kR.o.trans (nM (.inr (.inr (.inl ⟨_,PP,rfl⟩))) X));have vk:=ae zV;have or2:Old r wc:=⟨G.o.hd.lt⟩;clear zV PP PQ ET ho c1 orc
   go_upto_region 15 with fail
   obtain⟨W1,lE⟩:=lg (wc.setRow gc X);rw[<-lE]at u q7;have Yc:∀k,W1.frozen? ⟨r,k,none⟩=false:=λk=>u.o.hd.frozen k;have c51:Cl W1 r 5 (.int .i64 (l.nx:Int)):=⟨u.o.hd.cell 5⟩;obtain⟨C,zW⟩:=lh (l.nx+1);have H1:=ae zW;have hw5:IntKind.i64.wrap ((l.nx:Int)+1)=(C:Int):=by have V:=ER.o;rw[aV];omega
   clear zW;have Yd:Old r W1:=⟨u.o.hd.lt⟩;rw[<-lE];clear lE UE qZ aaY or2
   go_upto_region 16 with fail
   obtain⟨CS,Yq⟩:=lg (iE C2 e (List.replicate wd 0));rw[<-Yq]at u;have H2:=ae Yq;obtain⟨v3,EU⟩:=lg ({l with cs:=CS,nx:=C});have S:cQ (W1.setCell ⟨r,5,none⟩ (.int .i64 (C:Int))) p.1.size r I v3:=by rw[EU];exact u.o.sk (i:=5) (by rfl) rfl rfl rfl
   have q1:Kf (a.F r) (I.F r) w (W1.setCell ⟨r,5,none⟩ (.int .i64 (C:Int))):=q7.o.ax (.inl rfl) _;obtain⟨W3,Yr⟩:=lg (W1.setCell ⟨r,5,none⟩ (.int .i64 (C:Int)));rw[<-Yr]at S q1;have pW3:aj W3 p:=q1.prev λb hb=>(M.o.lt b hb).1;obtain⟨nb,Y⟩:=lh l.bs.length;have O:v3.bs=l.bs:=by rw[EU]
   have HBR:Hx (aI W3 p.1.size 311 3 I.Ab I.cb nb (gN v3.bs)):=ae (by have V:=S.bs;rw[O,Y]at V;rw[O];exact V);have c23:Cl W3 r 2 (.slice I.Ab nb I.cb):=⟨by rw[S.hd.cell 2,<-Y,<-O];rfl⟩;have c53:Cl W3 r 5 (.int .i64 (C:Int)):=⟨by rw[S.hd.cell 5,EU];rfl⟩;have or3:Old r W3:=⟨S.hd.lt⟩;have WP:Hx (p.1.size<=W3.1.size):=ae pW3.st.size;have Ys:Hx (nb<=16777216):=ae (by rw[<-Y];exact ES.o);have HIB:Hx (i<=nb):=ae (by rw[<-Y];exact N.o);have C3:=ae EU;have WQ:=ae S;have WR:=ae q1;have qp:=ae Y;have aaZ:=ae O;rw[<-Yr];clear Yq EU S q1 Y O Yc c51 Yd;clear u q7 HU N;have u:=WQ;have q7:=WR;have HU:=WP;have N:=HIB;clear Yr WQ WR WP HIB;obtain⟨b4,Yt⟩:=lg (l.bs.take i++⟨(C:Int),e,wd⟩::l.bs.drop i);have hl4:b4.length=nb+1:=by rw[Yt];have:=qp.o;have:=N.o;simp;omega
   have UQ:=ae Yt;have Mc:=ae hl4
   go_cut [] (λwx=>∃a4 v4,Hx (cQ wx p.1.size r a4 v4)/\Hx (v4={l with cs:=CS,nx:=C,bs:=b4})/\Hx (Kf (a.F r) (a4.F r) w wx)/\aj wx p)
   case first=>
    refine aR p (λw9=>Cl w9 r 5 (.int .i64 (C:Int))) aq ao (λT _=>?_);refine bw 0 ?_;refine bw 1 ?_;refine bw 2 ?_;refine bw 3 ?_;refine bw 5 ?_;refine bw 6 ?_;refine bw 7 ?_;refine bw 8 ?_;refine bw 9 ?_;refine bw 10 ?_;refine bw 11 ?_;refine bw 12 ?_;refine o7 4 13 (λK hK=>?_) (λK hK=>?_)
    focus
     go_simp;refine aL hK ?_ ⟨ab p T,ao⟩;refine aM 13 λK hK=>?_;go_simp;refine aL hK ?_ ⟨ab p _,ao⟩;refine bh (λT _ _=>?_)
    rotate_left
    focus
     go_simp;refine aL hK ?_ ⟨ab p _,ao⟩;refine bh (λT _ _=>?_);refine aM 4 λK hK=>?_;go_simp;refine aL hK ?_ ⟨ab p T,ao⟩
    all_goals
     refine aM 14 λK hK=>?_;go_simp;obtain⟨PR,aa0⟩:aI T p.1.size 311 3 I.Ab I.cb nb (gN v3.bs)/\True:=⟨HBR.o.at,bA⟩;refine(XU PR (EH _) (us:=[.int .i64 (C:Int),.int .i64 (e:Int),.int .i64 (wd:Int)]) Bx.al rfl (by simp[Value.oneCell']) (λad U=>Ku (bu (HBR.o.lt ad U) ai)) rfl N.o Ys.o (aO HU.o ai)).mono ?_;rintro U u6 ⟨A6,c6,rfl,r6,J⟩;dsimp only;have UR:∀i,u6.cell? ⟨r,i,none⟩=T.cell? ⟨r,i,none⟩:=λi=>dY (J.off r (u.o.at (w':=T)).hd.lt λad U hx=>(u.o.apart.2.2 r ⟨ad,U,hx⟩).1 rfl);have p6:aj u6 p:=⟨(a7 p T).trans ⟨J.base.os,J.base.tape,J.base.output,J.size,λb hb=>J.off b (bu hb (a7 p T).size) λad U hx=>absurd hb (gw.2 (by rw[<-hx];exact(PR.af ⟨ad,U,rfl⟩).1))⟩⟩;refine hK.out _ _ ⟨p6,⟨(UR 5).trans (Cl.eq (w:=T))⟩⟩ (λhHeld=>?_);have CH6:=ae J;have R6:=ae r6;have KU6:Hx (Kf (a.F r) (I.F r) w T):=ae (q7.o.trans (Kf.later _ (w:=W3)));have MU6:Hx (cQ T p.1.size r I v3):=ae u.o.at;have XY:u6.cell? ⟨r,2,none⟩=some (.slice I.Ab nb I.cb):=(UR 2).trans (Cl.eq (w:=T));have hf6:u6.frozen? ⟨r,2,none⟩=false:=(J.al (u.o.at (w':=T)).hd (λad U hx=>(u.o.apart.2.2 r ⟨ad,U,hx⟩).1 rfl)).frozen 2;have c56:Cl u6 r 5 (.int .i64 (C:Int)):=⟨(UR 5).trans (Cl.eq (w:=T))⟩;clear hHeld hK K J r6 PR aa0 UR
     try dsimp only[Act.put,List.setIfInBounds_toArray,List.set_cons_zero,List.set_cons_succ]
     refine bw 15 ?_;refine bw 16 ?_;refine aM 17 λK hK=>?_;go_simp;refine aL hK ?_ ⟨⟨(a7 p u6).setCell (p:=⟨r,2,none⟩) u.o.hr _⟩,Cl.a9 ao (.inr ak)⟩;clear hK K XY hf6;refine aZ ?_
     go_wp2_with fail
     go_meet
     case rel=>
      have PS:=MU6.o.WK (bs':=b4) (A':=A6) (c':=c6) CH6.o (by
       have V:=R6.o;rw[Mc.o,UQ.o];rw[aaZ.o,<-AH,<-AJ]at V;have U:gN (l.bs.take i++⟨(C:Int),e,wd⟩::l.bs.drop i)=gN (l.bs.take i)++[.int .i64 (C:Int),.int .i64 (e:Int),.int .i64 (wd:Int)]++gN (l.bs.drop i):=by
        rw[ii];simp[gN]
       rw[U];exact V)
      rw[Mc.o]at PS;obtain⟨a4,ha4⟩:=lg ({I with Ab:=A6,cb:=c6});rw[<-ha4]at PS;obtain⟨v4,hv4⟩:=lg ({v3 with bs:=b4});rw[<-hv4]at PS;have Z:Hx (v4={l with cs:=CS,nx:=C,bs:=b4}):=ae (by rw[hv4,C3.o]);have P:=ae PS.1;have EV:Hx (Kf (a.F r) (a4.F r) w (u6.setCell ⟨r,2,none⟩ (.slice A6 (nb+1) c6))):=ae (KU6.o.trans PS.2);exact⟨a4,v4,P,Z,EV,EV.o.prev λb hb=>(M.o.lt b hb).1⟩
   case rest=>
   obtain⟨a4,v4,P,Z,EV,pW4⟩:=hcut;obtain⟨W4,rfl⟩:=lg wc;have c34:Cl W4 r 3 (.map (some a4.q)):=⟨P.o.hd.cell 3⟩;have c54:Cl W4 r 5 (.int .i64 (C:Int)):=⟨by rw[P.o.hd.cell 5,Z.o];rfl⟩;have or4:Old r W4:=⟨P.o.hd.lt⟩;have HNM:Hx ((C:Int)∉v4.mp.map (·.1)):=ae (by
    rw[Z.o]
    show(C:Int)∉l.mp.map (·.1)
    intro hm;obtain⟨x,hx,EW⟩:=bC.1 hm;obtain⟨b,hb,rfl⟩:=D.o.HB x hx;have h8:=D.o.hb b hb;have V:=H1.o;dsimp only at EW;omega)
   have aa1:Hx ((iR a4 {v4 with mp:=v4.mp++[((C:Int),(e:Int))]})[5]?=some (.int .i64 (C:Int))):=ae (by rw[Z.o];rfl);clear c23 c53 or3 pW3
   go_upto_region 17 with fail
   refine aR p (λw9=>Cl w9 r 3 (.map (some a4.q))/\Cl w9 r 5 (.int .i64 (C:Int))) aq ⟨ao,ao⟩ (λuz _=>?_);refine bp 0 ?_;refine bp 1 ?_;refine bp 2 ?_;refine bp 3 ?_;refine bp 4 ?_;refine bp 5 ?_;refine bp 6 ?_;refine bp 7 ?_;refine bp 8 ?_;refine aM 9 λK hK=>?_;obtain⟨W5,PM,hm5,PT,Yu,xl⟩:=(P.o.at (w':=uz)).mp.Pv (k:=(C:Int)) (z:=(e:Int)) HNM.o;have zX:=(P.o.at (w':=uz)).PD hm5 PT;have ph:=ae zX;have oV:Hx (Kf (a.F r) (a4.F r) w W5):=ae ((EV.o.trans (Kf.later _ (w:=W4))).trans (CZ (.inr (.inl rfl)) PT Yu xl));have hpq:p.1.size<=a4.q:=P.o.hq;go_simp;refine aL hK ?_ ⟨⟨⟨xl.os.trans (a7 p uz).os,xl.tape.trans (a7 p uz).tape,xl.output.trans (a7 p uz).output,by rw[Yu];exact(a7 p uz).size,λb hb=>by rw[PT b om];exact(a7 p uz).block b hb⟩⟩,⟨zX.hd.cell 3⟩,⟨(zX.hd.cell 5).trans aa1.o⟩⟩;clear hK K PM hm5 PT Yu xl zX;refine aZ ?_
   skip
   obtain⟨v5,Md⟩:=lg ({v4 with mp:=v4.mp++[((C:Int),(e:Int))]}:cB);have qq:Hx (v5={l with cs:=CS,nx:=C,bs:=b4,mp:=l.mp++[((C:Int),(e:Int))]}):=ae (by rw[Md,Z.o]);rw[<-Md]at ph;have pW5:aj W5 p:=oV.o.prev λb hb=>(M.o.lt b hb).1;have c65:Cl W5 r 6 (.int .i64 (l.lv:Int)):=⟨by rw[ph.o.hd.cell 6,qq.o];rfl⟩;have fr5:∀k,W5.frozen? ⟨r,k,none⟩=false:=λk=>ph.o.hd.frozen k;have X7:Old r W5:=⟨ph.o.hd.lt⟩;obtain⟨l2,xm⟩:=lh (l.lv+wd);have hw6:IntKind.i64.wrap ((l.lv:Int)+(wd:Int))=(l2:Int):=by have V:=aaU.o;rw[aV];omega
   have UT:=ae xm;clear xm c34 c54 or4 pW4 Md
   go_upto_region 19 with fail
   obtain⟨v6,H3⟩:=lg ({v5 with lv:=l2});have H4:Hx (v6={l with cs:=CS,nx:=C,bs:=b4,mp:=l.mp++[((C:Int),(e:Int))],lv:=l2}):=ae (by rw[H3,qq.o]);obtain⟨W6,xn⟩:=lg (W5.setCell ⟨r,6,none⟩ (.int .i64 (l2:Int)));have HM:Hx (cQ W6 p.1.size r a4 v6):=ae (by rw[xn,H3];exact ph.o.sk (i:=6) (by rfl) rfl rfl rfl);have PU:Hx (Kf (a.F r) (a4.F r) w W6):=ae (by rw[xn];exact oV.o.ax (.inl rfl) _);have pW6:aj W6 p:=PU.o.prev λb hb=>(M.o.lt b hb).1;have c66:Cl W6 r 6 (.int .i64 (l2:Int)):=⟨by rw[HM.o.hd.cell 6,H4.o];rfl⟩;have c86:Cl W6 r 8 (.int .i64 (v6.pe:Int)):=⟨HM.o.hd.cell 8⟩;obtain⟨pe,H5⟩:=lh (max l.pe l2);have PV:max (v6.pe:Int) (l2:Int)=(pe:Int):=by
    have V:v6.pe=l.pe:=by rw[H4.o]
    omega
   have or6:Old r W6:=⟨HM.o.hd.lt⟩;have Yv:=ae H5;rw[<-xn];clear xn H5 H3 c65 fr5 X7 pW5;refine aR p (λw9=>Cl w9 r 6 (.int .i64 (l2:Int))) aq ao (λuq _=>?_);refine bw 0 ?_;refine bw 1 ?_;refine bw 2 ?_;refine bw 3 ?_;refine bw 5 ?_;refine bw 6 ?_;refine bw 7 ?_;refine bw 8 ?_;refine aM 4 λK hK=>?_;go_simp;refine aL hK ?_ ⟨ab p uq,ao⟩;refine bw 9 ?_;refine bw 10 ?_;refine bw 11 ?_;refine aM 12 λK hK=>?_;have PG:uq.cell? ⟨r,8,none⟩=some (.int .i64 (v6.pe:Int)):=(HM.o.at (w':=uq)).hd.cell 8;have PH:uq.frozen? ⟨r,8,none⟩=false:=(HM.o.at (w':=uq)).hd.frozen 8;go_simp;refine aL hK ?_ ⟨⟨(a7 p uq).setCell (p:=⟨r,8,none⟩) HM.o.hr _⟩,Cl.a9 ao (.inr ak)⟩;clear hK K PG PH;refine aZ ?_
   skip
   obtain⟨v7,Yw⟩:=lg ({v6 with pe:=pe});have Yx:Hx (v7={l with cs:=CS,nx:=C,bs:=b4,mp:=l.mp++[((C:Int),(e:Int))],lv:=l2,pe:=pe}):=ae (by rw[Yw,H4.o]);obtain⟨W7,UU⟩:=lg (uq.setCell ⟨r,8,none⟩ (.int .i64 (pe:Int)));have UV:Hx (cQ W7 p.1.size r a4 v7):=ae (by rw[UU,Yw];exact(HM.o.at (w':=uq)).sk (i:=8) (by rfl) rfl rfl rfl);have xj:Hx (Kf (a.F r) (a4.F r) w W7):=ae (by rw[UU];exact(PU.o.trans (Kf.later _ (w:=W6))).ax (.inl rfl) _);have c77:Cl W7 r 7 (.int .i64 (l.hi:Int)):=⟨by rw[UV.o.hd.cell 7,Yx.o];rfl⟩;have c57:Cl W7 r 5 (.int .i64 (C:Int)):=⟨by rw[UV.o.hd.cell 5,Yx.o];rfl⟩;have fr7:∀k,W7.frozen? ⟨r,k,none⟩=false:=λk=>UV.o.hd.frozen k;obtain⟨hh,hhh⟩:=lh (max l.hi (e+wd));have acp:max (l.hi:Int) ((e:Int)+(wd:Int))=(hh:Int):=by omega
   have HHH:=ae hhh;rw[<-UU];clear UU hhh Yw PV c66 c86 or6 pW6
   go_wp2_with fail
   go_ret2;have hm8:cQ (W7.setCell ⟨r,7,none⟩ (.int .i64 (hh:Int))) p.1.size r a4 {v7 with hi:=hh}:=UV.o.sk (i:=7) (by rfl) rfl rfl rfl;have V:C=v.nx+1:=by rw[<-H1.o,ER.o]
   refine⟨by subst V;rfl,a4,l.oJ i e wd l.pk,ae ?_,ae ?_,tz,ae (xj.o.ax (.inl rfl) _)⟩
   .have U:({v7 with hi:=hh}:cB)=l.oJ i e wd l.pk:=by
     rw[Yx.o,H2.o,vk.o,UQ.o,<-H1.o,<-UT.o,<-Yv.o,<-HHH.o,<-UT.o];rfl
    rw[<-U];exact hm8
   .refine ur.of Q.o aaV.o (dE HX.o) (λb hb=>?_) HEC.o h1 (Nat.le_succ_of_le D.o.pk);rw[<-HX.o];exact HG.o b hb
end
