/- Lemmas. -/
import Derived.Test.YtmkjnlifimffkaaGreatS05
namespace Go.Proofs.YtmkjnlifimffkaaGreat
open Go.RowKit Tryz
set_option linter.all false
set_option maxRecDepth 100000
set_option maxHeartbeats 0
variable{p u w w' w1:World}{c c' d g i j k m n r:Nat}{a':r7}{v':da}{bs bs':List gj}{A A':Option Addr}{h y z:Int}{xs zs:List Int}
variable{B t:Nat}{a:r7}{v:da}{b:gj}{x:Value}
def dk.aby(l:dk w B r a v)(D:a.Ab=some ⟨g,0,none⟩)(hi:v.bs[i]?=some b):dk (w.setCell (g,i*3+1) (t:Int)) B r a {v with bs:=v.bs.set i ⟨b.h,t,b.wd⟩}:=by
 obtain⟨p1,I,F⟩:=l.apart;have C:AF a.Ab g:=by rw[D];exact⟨_,rfl,rfl⟩
 have hb:=l.bs;rw[D]at hb;have G:(v.bs.set i ⟨b.h,t,b.wd⟩).length=v.bs.length:=d3 ..;refine⟨?_,?_,?_,?_,l.hr,l.hq⟩
 .have:j9 a {v with bs:=v.bs.set i ⟨b.h,t,b.wd⟩}=j9 a v:=by dsimp only[j9];rw[G]
  rw[this];exact l.hd.aY (dO (F g C).1) _
 .exact l.cs.same λE e=>ba w ⟨g,_,none⟩ _ _ λJ=>(I E.block ⟨E,e,rfl⟩).2.2 (by rw[show E.block=g from J];exact C)
 .show aU _ _ _ _ _ _ (v.bs.set i ⟨b.h,t,b.wd⟩).length (h7 (v.bs.set i ⟨b.h,t,b.wd⟩))
  rw[G,D,R5 hi];exact hb.zd _
 .exact l.mp.same (ba w ⟨g,_,none⟩ _ _ (dO (F g C).2))
def OA{bs:List gj}(hi:bs[i]?=some b)(t):(((bs.set i ⟨b.h,t,b.wd⟩).take (i+1)).map (·.wd)).sum=((bs.take i).map (·.wd)).sum+b.wd:=by
 have l:=(a8.1 hi).1;have e:(bs.set i ⟨b.h,t,b.wd⟩).take (i+1)=bs.take i++[⟨b.h,t,b.wd⟩]:=by
  rw[jC,fF l,rA (al i)];rfl
 rw[e];simp
def Ht[pw:aT p w](hM:dk w p.1.size r a v)(hv:cy v)(r9:v.mv<=1000000000000):() 245 #[.pointer r] w (λe w'=>e=.returned (.tuple #[])/\∃v',Hx (dk w' p.1.size r a v')/\Hx (nY v v')/\Hx (v'.bs.length=v.bs.length)/\Hx (d4 v'.bs v'.bs.length=v.lv)/\Hx (v'.mv=v.mv+1)/\Hx (Kf (a.F r) (a.F r) w w')):=by
 have CC:=@cQ;have hlen:=hv.lens;obtain⟨n,hn⟩:=lh v.bs.length;have HN:=ae hn;rw[hn]at hlen;have HV:=ae hv;have Sf:=ae hM;have c2:Cl w r 2 (.slice a.Ab n a.cb):=⟨by rw[hM.hd.cell 2,<-hn];rfl⟩;have or0:Old r w:=⟨hM.hd.lt⟩;clear hM hv hn
 go_in
 go_wp2_with fail
 go_loopw [2,10] (λs x wr=>∃(i t:Nat) (l:da),i<=n/\s=.int .i64 (t:Int)/\x=.int .i64 (i:Int)/\Hx (dk wr p.1.size r a l)/\Hx (nY v l)/\Hx (l.bs.length=n)/\Hx (d4 l.bs i=t)/\Hx (t=((l.bs.take i).map (·.wd)).sum)/\Hx (l.mv=v.mv)/\Hx (Kf (a.F r) (a.F r) w wr)/\aj wr p) (λ_ x _=>n-(intOf x).toNat)
 case atStart=>exact⟨0,0,v,aM _,rfl,rfl,Sf,ae (nY.refl HV.o),HN,ae rfl,ae aD,ae rfl,ae (Kf.refl _ _),⟨pw.st⟩⟩
 case round=>
  obtain⟨i,t,l,hi,rfl,rfl,C,J,E,OB,Sg,vl,HKv,hpr⟩:=hrel;clear c2 or0;have fr1:∀k,wr.frozen? ⟨r,k,none⟩=false:=λk=>C.o.hd.frozen k;have c2:Cl wr r 2 (.slice a.Ab n a.cb):=⟨by rw[C.o.hd.cell 2,<-E.o];rfl⟩;have or1:Old r wr:=⟨C.o.hd.lt⟩;by_cases bE:i<n
  .obtain⟨b,hb⟩:∃b,l.bs[i]?=some b:=⟨_,a5 (by rw[E.o];exact bE)⟩;have L:=J.o.ok;obtain⟨g,hA,c10,Xc,Xd⟩:=C.o.ak hb;obtain⟨G,hAc,sc,l1,l2,l3,l4,l5,C2⟩:=C.o.row L hb;have OC:t<=b.fr:=by rw[<-OB.o];exact L.lay.E0 hb
   have c1:Cl wr r 1 (.slice G l.cs.length a.cc):=⟨by rw[C.o.hd.cell 1,<-hAc];rfl⟩;have og1:Old g wr:=⟨de Xc.eq⟩;have HB:=ae hb;have Ko:=ae L;have HAB:=ae hA;have HAC:=ae hAc;have SC:=ae sc;have n7:Hx ((cont l.cs b).length=b.wd):=ae (jj l3);have HT:Hx (t+b.wd<=l.cs.length):=ae om;have Sh:=ae OC;have HMK:Hx ((l.mp.map (·.1)).Nodup):=ae L.wF;have OD:Hx (b.h∈l.mp.map (·.1)):=ae (bw.2 ⟨_,L.B2 b (aC hb),rfl⟩);have ZE:∀W:World,(Instr.slice 26 (.slice G l.cs.length a.cc) (some (.int .i64 (t:Int))) (some (.int .i64 ((t:Int)+(b.wd:Int)))) none).run prog W=.ok (.slice (some ⟨G,t,none⟩) b.wd (a.cc-t)) W:=λW=>by
    have hso:∀W,(sizeOf (prog.elem 26)).run prog W=.ok 1 W:=λW=>by
     obtain⟨ii,e1,e2⟩:=bt.1 (show(prog.info? (prog.elem 26)).map (·.size)=some 1 from by kernel_rfl);simp[sizeOf,typeInfo,e1,e2]
    rw[kJ W 26 (some ⟨G,0,none⟩) l.cs.length a.cc ao .i64 .i64 (t:Int) ((t:Int)+(b.wd:Int)) om om om,hso];have e1:((t:Int)+(b.wd:Int)).toNat=t+b.wd:=by omega
    have e2:¬a.cc=t:=om;have e3:t+b.wd-t=b.wd:=om;simp[Result.andThen,sliced,e1,e2,e3,cn]
   have RR:IntKind.i64.wrap ((t:Int)+(b.wd:Int))=(t:Int)+(b.wd:Int):=by rw[a7];omega
   have hw2:IntKind.i64.wrap ((b.fr:Int)+(b.wd:Int))=(b.fr:Int)+(b.wd:Int):=by rw[a7];omega
   rw[hA]at c2;have i1:(i:Int)<(n:Int):=by omega
   clear hb L hA hAc sc l1 l2 l3 l4 l5 OC
   go_upto_region 5 with fail
   refine a6 p (λw9=>Cl w9 r 1 (.slice G l.cs.length a.cc)/\Cl w9 g (i*3+1) (b.fr:Int)/\Cl w9 g (i*3+2) (b.wd:Int)) ao ⟨aq,aq,aq⟩ (λN _=>?_);refine bL 0 ?_;refine bL 1 ?_;refine bL 2 ?_;refine bL 3 ?_;refine bL 4 ?_;refine bL 5 ?_;refine bL 6 ?_;refine bL 7 ?_;refine bL 8 ?_;refine bL 9 ?_;refine bL 10 ?_;refine bL 11 ?_;refine bL 12 ?_;refine bL 13 ?_;refine bL 14 ?_;refine bL 15 ?_;refine bL 16 ?_;refine bL 17 ?_;refine bL 18 ?_;refine bL 19 ?_;refine bL 20 ?_;refine bL 21 ?_;refine bL 22 ?_;refine bL 23 ?_;refine bL 24 ?_;refine bL 25 ?_;refine bL 26 ?_;refine bL 27 ?_;refine bL 28 ?_;refine bL 29 ?_;refine aK 30 λK hK=>?_;have O:=C.o.at (w':=N);have P:=O.cs;rw[HAC.o]at P;obtain⟨X,pt,ho6⟩:=Nf (ad:=⟨G,b.fr,none⟩) (t:=t) (xs:=cont l.cs b) P (λj z hj=>(SC.o.rd.below (aP wr N)).all hj|>λh=>by rw[cn];exact h) (by rw[n7.o];exact HT.o);rw[n7.o]at pt;have U:AF a.Ac G:=by rw[HAC.o];exact⟨_,rfl,rfl⟩
   have Si:G≠r:=(O.apart.2.1 G U).1;have Fg:p.1.size<=G:=(O.lt G (.inr (.inr (.inl U)))).1;have qp:G≠g:=λe=>(O.apart.2.1 G U).2.2 (by rw[HAB.o,e];exact⟨_,rfl,rfl⟩);have M:=ae (O.cells HAC.o ho6 (kY (by rw[n7.o];exact HT.o)));have B5:Hx (Kf (a.F r) (a.F r) w (N.setRow G X)):=ae ((HKv.o.trans (Kf.later _ (w:=wr))).trans (mu (.inr (.inr (.inl U))) X));refine d7 rfl _ _ 26 26 rfl _ _ rfl rfl (pt _ _ _) ?_;refine aG hK ?_ ⟨⟨⟨(aP p N).os,(aP p N).tape,(aP p N).output,by rw[size_setRow];exact(aP p N).size,λb hb=>by rw[bk om];exact(aP p N).block b hb⟩⟩,⟨(d9 (bk (dO Si) X)).trans (Cl.eq (w:=N))⟩,⟨(d9 (bk (dO qp) X)).trans (Cl.eq (w:=N))⟩,⟨(d9 (bk (dO qp) X)).trans (Cl.eq (w:=N))⟩⟩;refine a9 ?_
   skip
   obtain⟨T,V⟩:=lg ({l with cs:=jO l.cs t (cont l.cs b)});rw[<-V]at M;obtain⟨W1,k5⟩:=lg (N.setRow G X);rw[<-k5]at M B5;have Fm:T.bs[i]?=some b:=by rw[V];exact HB.o
   obtain⟨g2,Y,-,d11,-⟩:=M.o.ak Fm;obtain rfl:g2=g:=by have I:=HAB.o;rw[Y]at I;injection I with I;injection I
   have fg1:∀k,W1.frozen? ⟨g2,k,none⟩=false:=λk=>by
    have I:=M.o.bs;rw[Y]at I;obtain⟨cur,pu,_⟩:=I.whole;simp[World.frozen?,pu]
   have HA2:=ae Y;clear Y;rw[<-k5];have OE:=ae V;have Fj:=ae Fm;clear V Fm k5 c10 Xc Xd c1 c2 og1 fr1 or1 ZE C2
   go_upto_region 7 with fail
   obtain⟨W2,Z⟩:=lg (W1.setCell (g2,i*3+1) (t:Int));have hM2:dk W2 p.1.size r a {T with bs:=T.bs.set i ⟨b.h,t,b.wd⟩}:=by rw[Z];exact M.o.aby HA2.o Fj.o
   have hag:AF a.Ab g2:=by rw[HA2.o];exact⟨_,rfl,rfl⟩
   have Q:=ae hM2;have m5:Hx (Kf (a.F r) (a.F r) w W2):=ae (by rw[Z];exact B5.o.av (.inr (.inr (.inr hag))) _);have Sj:Hx (g2≠a.q):=ae (M.o.apart.2.2 g2 hag).2;have pW2:aj W2 p:=m5.o.prev λb hb=>(Sf.o.lt b hb).1;have xe:i<T.bs.length:=(a8.1 Fj.o).1;obtain⟨g3,D,d20,-,d22⟩:=Q.o.ak (i:=i) (b:=⟨b.h,t,b.wd⟩) (by show(T.bs.set i _)[i]?=_;rw[fF xe]);obtain rfl:g3=g2:=by rw[HA2.o]at D;injection D with D;injection D with D;exact D.symm
   have d23:Cl W2 r 3 (.map (some a.q)):=⟨Q.o.hd.cell 3⟩;have og2:Old g3 W2:=⟨de d20.eq⟩;dsimp only at d20 d22;have HMK:Hx (((({T with bs:=T.bs.set i ⟨b.h,t,b.wd⟩}:da).mp).map (·.1)).Nodup):=ae (by rw[OE.o];exact HMK.o);have OD:Hx (b.h∈(({T with bs:=T.bs.set i ⟨b.h,t,b.wd⟩}:da).mp).map (·.1)):=ae (by rw[OE.o];exact OD.o);have abz:=ae D;have Sk:=ae xe;rw[<-Z];clear Z hM2 hag d11 fg1 D xe;refine a6 p (λw9=>Cl w9 r 3 (.map (some a.q))/\Cl w9 g3 (i*3) (b.h:Int)) ao ⟨aq,aq⟩ (λuy _=>?_);refine bT 0 ?_;refine bT 1 ?_;refine bT 2 ?_;refine bT 3 ?_;refine bT 4 ?_;refine bT 5 ?_;refine bT 6 ?_;refine bT 7 ?_;refine bT 8 ?_;refine aK 9 λK hK=>?_;obtain⟨W3,Sm,Kn,R,t8,S⟩:=(Q.o.at (w':=uy)).mp.R0 (k:=b.h) (z:=(t:Int)) HMK.o OD.o;have hM3:=(Q.o.at (w':=uy)).Sa Kn R;have Xl:=ae hM3;have sN:Hx (Kf (a.F r) (a.F r) w W3):=ae ((m5.o.trans (Kf.later _ (w:=W2))).trans (Fh (.inr (.inl rfl)) R t8 S));have hpq:p.1.size<=a.q:=Q.o.hq;go_simp;refine aG hK ?_ ⟨⟨⟨S.os.trans (aP p uy).os,S.tape.trans (aP p uy).tape,S.output.trans (aP p uy).output,by rw[t8];exact(aP p uy).size,λb hb=>by rw[R b om];exact(aP p uy).block b hb⟩⟩,⟨hM3.hd.cell 3⟩,⟨(d9 (R g3 Sj.o)).trans (Cl.eq (w:=uy))⟩⟩;clear hK K Sm Kn R t8 S hM3;refine a9 ?_
   skip
   have d32:Cl W3 g3 (i*3+2) (b.wd:Int):=by
    obtain⟨g4,hA4,-,-,e2⟩:=Xl.o.ak (i:=i) (b:=⟨b.h,t,b.wd⟩) (by show(T.bs.set i _)[i]?=_;rw[fF Sk.o]);obtain rfl:g4=g3:=by have I:=abz.o;rw[hA4]at I;injection I with I;injection I
    exact e2
   go_wp2_with fail
   go_roundw
   case rel=>
    refine⟨i+1,t+b.wd,l.move i b t,om,by go_num,by go_num,?_,ae (J.o.trans (nY.move Ko.o HB.o (ei OB.o) Sh.o)),ae ?_,ae ?_,ae ?_,vl,sN,sN.o.prev λb hb=>(Sf.o.lt b hb).1⟩
    .have I:=Xl.o;rw[OE.o]at I;exact ae I
    .show(l.bs.set i _).length=n
     rw[d3];exact E.o
    .show d4 (l.bs.set i _) (i+1)=t+b.wd
     exact mo (fF (a8.1 HB.o).1)
    .show t+b.wd=(((l.bs.set i _).take (i+1)).map (·.wd)).sum
     rw[OA HB.o,<-Sg.o]
   case measure=>exact nT
  .obtain rfl:i=n:=om;have c9:Cl wr r 9 (l.mv:Int):=⟨C.o.hd.cell 9⟩;have c4:Cl wr r 4 (l.pk:Int):=⟨C.o.hd.cell 4⟩;have hw9:IntKind.i64.wrap ((l.mv:Int)+1)=((l.mv+1:Nat):Int):=by rw[vl.o,a7];omega
   go_wp2_with fail
   refine⟨rfl,.tuple #[],by simp[results,results245,go_sem],rfl,l.hc i (l.mv+1),?_,ae (J.o.trans (nY.hc J.o.ok (by rw[E.o];exact al _))),ae (by show l.bs.length=_;rw[E.o,HN.o]),ae ?_,ae (by show l.mv+1=_;rw[vl.o]),?_⟩
   .exact ae ((C.o.ud (v':=l.hc i l.mv) (i:=4) (x:=.int .i64 (i:Int)) (by rfl) rfl rfl rfl).ud (v':=l.hc i (l.mv+1)) (i:=9) (by rfl) rfl rfl rfl)
   .show d4 l.bs l.bs.length=v.lv
    rw[E.o,OB.o,Sg.o,<-E.o,dR,<-J.o.lv];exact J.o.ok.lv.symm
   .exact ae ((HKv.o.av (.inl rfl) _).av (.inl rfl) _)
variable{cur:Array Value}
def nu(k):Builtin.zeroCells (Value.cells an) k=(List.replicate k (Value.int .i64 0)).toArray:=by
 apply pa;simp[Builtin.zeroCells,Value.cells];apply ye
 .simp
 .intro i b e;simp[Nat.mod_one]
def xf(hg:w.heap[g]?=some (.cells cur 65 (0,0)))(y:cur.size=c)(hr:n+k<=c)(z:0<k)(C:k<=100000000)(l):
  (Builtin.append_ #[26,3] l #[(g,n,c),k]).run prog w=.ok (.slice g (n+k) c) (w.setRow g (cur.toList.take n++List.replicate k (Value.int .i64 0)++cur.toList.drop (n+k)).toArray):=by
 have⟨i,hi,eZ⟩:=bt.1 (show(prog.info? 65).map (λi=>(i.zero,i.size,i.bytes))=some (some (.int .i64 0),1,8)from by kernel_rfl);simp only[eP]at eZ;have⟨hz,hs,hb⟩:=eZ;have hu:prog.underlying 26=some (.slice 65):=ao;have b:=EQ prog g n 65 (List.replicate k (Value.int .i64 0)) 0 cur w hg cr (λv hv=>by rw[eH hv];rfl);simp only[ef,eY]at b;have m:IntKind.i64.wrap (k:Int)=k:=by rw[a7];omega
 have r:¬((k:Int)<0):=by omega
 have u:¬(281474976710656<(k:Int)*8):=by omega
 have e:¬(k=0):=om;have j:=nu k;simp[Builtin.append_,gF hu,gF underlying3,sizeOf,typeInfo,zeroValue,hi,hz,hs,hb,asInt,asIntOf,m,r,u,e,hr,j,cn,b]
def OF(h:aB w B 65 A c zs)(D:0<k)(M:zs.length+k<=100000000)(l:B<=w.1.size):
  ∃m E w',(∀b,(Builtin.append_ #[26,3] b #[.slice A zs c,k]).run prog w=.ok (.slice m (zs.length+k) E) w')/\aB w' B 65 m E (zs++List.replicate k 0)/\dm A m w w':=by
 have⟨i,hi,eZ⟩:=bt.1 (show(prog.info? 65).map (λi=>(i.zero,i.size,i.bytes))=some (some (.int .i64 0),1,8)from by kernel_rfl);simp only[eP]at eZ;have⟨r,hs,hb⟩:=eZ;have N:=h.ii;have F:(zs++List.replicate k 0).length=zs.length+k:=aD;by_cases hr:zs.length+k<=c
 .rcases h.form with⟨_,I,L⟩|⟨g,cur,rfl,l,hg,_,hm,J,ht⟩
  .subst L;omega
  .refine⟨_,_,_,λb=>xf hg J hr D om b,?_,ep (dP.1 hg).1 _⟩;unfold aB;rw[F];refine aU.mk' (k:=1) l (bV hg _) hr hm cr ?_;rw[fp,gE cr,ht];simp
 .have e:(Builtin.firstCells i.size zs.length (.slice A zs c)).run prog w.drew=.ok (zs.map (Value.int .i64)).toArray w.drew:=by
   rw[hs];rcases h.form with⟨rfl,I,_⟩|⟨g,cur,rfl,l,hg,_,hm,J,ht⟩
   .subst I;exact run_firstCells_none w.drew 1 0 0 c
   .exact EA w.drew 1 zs.length ⟨g,0,none⟩ zs.length c (zs.map (Value.int .i64)) aD (λj v K=>by
     rw[bf]at K;obtain⟨z,r,rfl⟩:=bt.1 K;rw[cn];exact h.rd.all r)
  obtain⟨G,u⟩:=lg (grownCap w (zs.length+k) c 65);have y:zs.length+k<=G:=by rw[u];exact pb w _ _ _
  have C:G<=maxLen:=by rw[u];exact rv w (zs.length+k) c 65 (by unfold maxLen;omega)
  refine⟨some ⟨w.1.size,0,none⟩,G,w.drew.alloc (.cells ((zs.map (Value.int .i64)).toArray++Builtin.zeroCells (Value.cells an) k++Builtin.zeroCells (Value.cells an) (G-(zs.length+k))) 65),λb=>?_,?_,dm.fresh ((aV _ _).drew.alloc (al _) _) (al _)⟩
  .have:=Lib.run_append_grow_zeros (P:=prog) w 26 3 b 65 i _ .i64 .i64 ao ao hi r A zs.length c (zs.map (Value.int .i64)) e k D (by rw[hs];decide) om om (by rw[hb];omega) (by rw[hb];exact EL om om);rw[u];exact this
  .unfold aB;rw[F,nu,nu];refine aU.mk' (k:=1) l (jH w.drew _) y C cr ?_;rw[fp];simp only[Ez];rw[gE aD];simp
def Kp(h:aB w B 65 (some ⟨g,0,none⟩) c zs)(j:0<k)(ht:t+k<=zs.length){cap:Nat}:
  ∃X,(∀b,(Builtin.clear_ #[26] b #[.slice (some ⟨g,t,none⟩) k cap]).run prog w=.ok (.tuple #[]) (w.setRow g X))/\aB (w.setRow g X) B 65 (some ⟨g,0,none⟩) c (jO zs t (List.replicate k 0)):=by
 rcases h.form with⟨l,_⟩|⟨F,cur,e,m,hg,r,hm,u,hv⟩
 .cases l
 cases e;have⟨i,hi,eZ⟩:=bt.1 (show(prog.info? 65).map (λi=>(i.zero,i.size,i.bytes))=some (some (.int .i64 0),1,8)from by kernel_rfl);simp only[eP]at eZ;obtain⟨y,hs,hb⟩:=eZ;refine⟨(cur.toList.take t++List.replicate k (Value.int .i64 0)++cur.toList.drop (t+(List.replicate k (Value.int .i64 0)).length)).toArray,λb=>?_,?_⟩
 .exact nt (P:=prog) (w:=w) (E:=65) (z:=.int .i64 0) (n:=k) (us:=List.replicate k (Value.int .i64 0)) (o:=t) 26 b ao (λW=>by simp[zeroValue,typeInfo,hi,y]) (by rw[nu]) (λv hv=>by rw[eH hv];rfl) j hg cr
 .have C:=kY (cs:=zs) (p:=t) (xs:=List.replicate k 0) (by simpa using ht);have D:cur.toList.length=c:=by simpa using u
  have:=aU.mk' (w:=w.setRow g (cur.toList.take t++List.replicate k (Value.int .i64 0)++cur.toList.drop (t+(List.replicate k (Value.int .i64 0)).length)).toArray) (E:=65) (k:=1) (n:=zs.length) (c:=c) (vs:=(jO zs t (List.replicate k 0)).map (Value.int .i64)) m (bV hg _) r hm cr (by
   rw[fp,eY,jO,c9,c9,gI,kK,<-hv,List.map_replicate,eY];rw[fd,dQ om];rw[rC,bY cr];congr 1;rw[tI];congr 1;simp;omega)
  unfold aB;rw[C];exact this
variable{e wd:Nat}
def dk.abA(m:dk w B r a v)(D:dm a.Ac A' w w')(hr:aB w' B 65 A' c' zs):dk (w'.setCell (r,1) (.slice A' zs c')) B r {a with Ac:=A',cc:=c'} {v with cs:=zs}/\Kf (a.F r) (({a with Ac:=A',cc:=c'}:r7).F r) w (w'.setCell (r,1) (.slice A' zs c')):=by
 obtain⟨p1,E,M⟩:=m.apart;have G:az w' r 197 (j9 a v):=D.ak m.hd λl e u=>(E r ⟨l,e,u⟩).1 rfl;have I:aU w' B 311 3 a.Ab a.cb v.bs.length (h7 v.bs):=m.bs.same λl e=>D.off _ (m.bs.lt l e) λJ N u=>(E l.block ⟨J,N,u⟩).2.2 ⟨l,e,rfl⟩;have K:gn w' a.q v.mp:=m.mp.same (D.off _ m.mp.lt λl e u=>(E a.q ⟨l,e,u⟩).2.1 rfl);have L:∀l,A'=some l->l.block≠r:=λl e u=>by
  obtain⟨_,_,O,C⟩:=hr.af ⟨l,e,u⟩;unfold az at G;rw[G]at C;injection C with C;injection C with _ C;exact absurd C am
 refine⟨⟨?_,?_,?_,?_,m.hr,m.hq⟩,?_⟩
 .exact G.av 1 _
 .exact hr.same λl e=>ba w' ⟨r,1,none⟩ _ _ (L l e)
 .exact I.same λl e=>ba w' ⟨r,1,none⟩ _ _ (M l.block ⟨l,e,rfl⟩).1
 .exact K.same (ba w' ⟨r,1,none⟩ _ _ (dO p1))
 .refine((Kf.jt D).more (λb hb=>.inr (.inr (.inl hb))) (λb hb=>?_)).av (.inl rfl) _;rcases hb with hb|hb|hb|hb
  .exact .inr (.inl (.inl hb))
  .exact .inr (.inl (.inr (.inl hb)))
  .exact .inl hb
  .exact .inr (.inl (.inr (.inr (.inr hb))))
def cy.few(hv:cy v):v.bs.length<=16777216:=by
 have C:v.bs.length<=(v.bs.map (·.wd)).sum:=by
  have:∀L:List gj,(∀b∈L,1<=b.wd)->L.length<=(L.map (·.wd)).sum:=by
   intro L
   induction L with
   |nil=>intro _;simp
   |cons x t e=>
    intro hL;have l:=hL x cm;have m:=e λy u=>hL y (dp _ u);simp only[di,fY,dj];omega
  exact this _ λb hb=>(hv.lay.bd b hb).1
 have l:=hv.lv;have m:=hv.y3;have D:=hv.cl;have E:=hv.cap;omega
def Hu(W:aa){A:bF}{L c k:Nat}(C:A=some ⟨g,0,none⟩)(E:0<k)(F:e+k<=L)(G:L<=c):(Instr.slice 26 (A,L,c) (some (.int .i64 (e:Int))) (some (.int .i64 ((e:Int)+(k:Int)))) none).run prog W=.ok (.slice (some ⟨g,e,none⟩) k (c-e)) W:=by
 subst C;have l:∀W,(sizeOf (prog.elem 26)).run prog W=.ok 1 W:=λW=>by
  obtain⟨I,m,u⟩:=bt.1 (show(prog.info? (prog.elem 26)).map (·.size)=some 1 from by kernel_rfl);simp[sizeOf,typeInfo,m,u]
 rw[kJ W 26 (some ⟨g,0,none⟩) L c ao .i64 .i64 (e:Int) ((e:Int)+(k:Int)) om om om,l];have m:((e:Int)+(k:Int)).toNat=e+k:=by omega
 have u:¬c=e:=om;have D:e+k-e=k:=om;simp[Result.andThen,sliced,m,u,D,cn]
def Sn[pw:aT p w](hM:dk w p.1.size r a v)(hv:cy v)(h1:1<=wd)(h2:wd<=65536)(hl:v.lv+wd<=v.cap)(qi:v.nx<=1000000000000)(r9:v.mv<=1000000000000):
  () 201 #[.pointer r,wd] w (λe w'=>e=.returned (.tuple #[.int .i64 ((v.nx+1:Nat):Int),an])/\∃a' v',Hx (dk w' p.1.size r a' v')/\Hx (wG v wd v')/\Hx (v'.mv<=v.mv+1)/\Hx (Kf (a.F r) (a'.F r) w w')):=by
 have CC:=@cQ;have qA:=hv.y3;have xd:=hv.cl;have pt:=hv.cap;have HV:=ae hv;have M:=ae hM;have c0:Cl w r 0 (.int .i64 (v.cap:Int)):=⟨hM.hd.cell 0⟩;have c6:Cl w r 6 (.int .i64 (v.lv:Int)):=⟨hM.hd.cell 6⟩;have or0:Old r w:=⟨hM.hd.lt⟩;have d1:decide ((wd:Int)<1)=false:=by simp;omega
 have d2:decide ((65536:Int)<(wd:Int))=false:=by simp;omega
 have Sq:IntKind.i64.wrap ((v.cap:Int)-(v.lv:Int))=(v.cap:Int)-(v.lv:Int):=by rw[a7];omega
 have d3:decide ((v.cap:Int)-(v.lv:Int)<(wd:Int))=false:=by simp;omega
 have Fo:Hx (p.1.size<=w.1.size):=ae pw.st.size;clear hM hv
 go_in
 go_upto_region 3 with fail
 refine aw ao (λux _=>?_);refine qL [0,1,2,3,4,5,6,7,8,9,10] ?_;refine a9 ?_
 skip
 go_upto_if 35 with(go_at_call 244;refine(Xm (p:=p) (wd:=wd) (M.o.at (w':=ux)) HV.o).mono ?_;rintro e u1 ⟨pk,i,ok,rfl,B7,Hv,Se,hG⟩;have Fl:=ae B7;have vm:Hx (Kf (a.F r) (a.F r) w u1):=ae ((Kf.later _ (w:=w)).trans Se);have Sr:=ae Hv;have abB:(v.hc pk v.mv).mv<=1000000000000:=r9;have Ss:Hx (cy (v.hc pk v.mv)):=ae (nY.hc HV.o Hv).ok;have sQ:aj u1 p:=vm.o.prev λb hb=>(M.o.lt b hb).1;clear B7 Se Hv)
 go_cut [6,7] (λs s7 wx=>∃(i:Nat) (l:da),s=.int .i64 (i:Int)/\Hx (dk wx p.1.size r a l)/\Hx (nY v l)/\Hx (l.mv<=v.mv+1)/\Hx (i<=l.bs.length)/\Hx (∀b,l.bs[i]?=some b->d4 l.bs i+wd<=b.fr)/\Hx (d4 l.bs i+wd<=l.cap)/\Hx (Kf (a.F r) (a.F r) w wx)/\aj wx p)
 case first=>
  cases ok
  .go_upto_region 8 with(go_at_call 245;refine(Ht (p:=p) Fl.o Ss.o abB).mono ?_;rintro e u2 ⟨rfl,l,G,Q,r8,xh,vl,m5⟩;have sO:aj u2 p:=(vm.o.trans m5.o).prev λb hb=>(M.o.lt b hb).1;obtain⟨m,hm⟩:∃m,l.bs.length=m:=⟨_,rfl⟩;have uf:=ae hm;have c2:Cl u2 r 2 (.slice a.Ab m a.cb):=⟨by rw[G.o.hd.cell 2,<-hm];rfl⟩;clear hm)
   go_wp2_with fail
   go_meet
   case rel=>
    have ZD:l.cap=v.cap:=Q.o.cap;refine⟨m,l,rfl,G,ae ((nY.hc HV.o Sr.o).trans Q.o),ae (ei vl.o),ae (ei uf.o.symm),ae λb hb=>?_,ae ?_,ae (vm.o.trans m5.o),aq⟩
    .have:=(a8.1 hb).1;rw[uf.o]at this;omega
    .have:=xh.o;rw[uf.o]at this;rw[this,ZD];exact hl
  .go_wp2_with fail
   go_meet
   case rel=>
    obtain⟨g1,g2,g3⟩:=hG.o bX;exact⟨i,v.hc pk v.mv,rfl,Fl,ae (nY.hc HV.o Sr.o),ae (cz _),ae g1,ae g2,ae g3,vm,aq⟩
 case rest=>
  obtain⟨i,l,rfl,B6,Q,vl,N,HG,HE,HK,Xn⟩:=hcut;have D:Hx (cy l):=ae Q.o.ok;have vn:Hx (l.nx=v.nx):=ae Q.o.nx;have abC:Hx (l.lv=v.lv):=ae Q.o.lv;have aay:l.cap<=16777216:=D.o.cap;have ZF:l.bs.length<=16777216:=D.o.few;have ZG:l.cs.length<=16777216:=aL D.o.cl aay;have sI:=N.o;have abD:Hx (i<=l.bs.length):=N;obtain⟨e,he⟩:=lh (d4 l.bs i);have zk:=ae he;have hec:e+wd<=l.cap:=by rw[<-he];exact HE.o
  have HEC:=ae hec;obtain⟨L,hL⟩:=lh l.cs.length;have R:=ae hL;have c1:Cl wc r 1 (.slice a.Ac L a.cc):=⟨by rw[B6.o.hd.cell 1,<-hL];rfl⟩;have orc:Old r wc:=⟨B6.o.hd.lt⟩;have hwi:IntKind.i64.wrap ((i:Int)-1)=(i:Int)-1:=by rw[a7];omega
  have hwe:IntKind.i64.wrap ((e:Int)+(wd:Int))=(e:Int)+(wd:Int):=by rw[a7];omega
  obtain⟨z,hz⟩:=lh ((e:Int)+(wd:Int)-(L:Int):Int);have hwz:IntKind.i64.wrap ((e:Int)+(wd:Int)-(L:Int))=z:=by rw[a7,<-hz];omega
  have HZ:=ae hz;have abE:Hx (L<=16777216):=ae (by rw[<-hL];exact ZG);have zm:=ae ZF;obtain⟨mo,hmo⟩:=lh (decide (0<z));clear he hz hL ZG ZF c0 c6 or0
  go_upto_if 58 with(go_at_call 246;refine mv (lY B6 D N rfl zk) λu3 _=>?_)
  go_cut [] (λwx=>∃I,Hx (dk wx p.1.size r I {l with cs:=l.cs++List.replicate (e+wd-l.cs.length) 0})/\Hx (Kf (a.F r) (I.F r) w wx)/\aj wx p)
  case first=>
   cases mo
   .go_wp2_with fail
    go_meet
    case rel=>
     have h0:e+wd-l.cs.length=0:=by
      have h3:=of_decide_eq_false hmo;have:=HZ.o;have:=R.o;omega
     refine⟨a,ae ?_,ae (HK.o.trans (Kf.later _ (w:=wc))),aF⟩;rw[h0];have V:dk _ p.1.size r a l:=B6.o.at (w':=u3);have U:({l with cs:=l.cs++List.replicate 0 0}:da)=l:=by obtain⟨f1,f2,f3,f4,f5,f6,f7,f8,f9,f10⟩:=l;simp
     rw[U];exact V
   .obtain⟨k,hk⟩:∃k:Nat,z=(k:Int):=⟨z.toNat,by have:=o6 hmo;omega⟩;subst hk;have St:0<k:=by have:=o6 hmo;omega
    have Kq:Hx (k=e+wd-L):=ae (by have:=HZ.o;omega);have hkL:L+k<=16777216:=by have:=HZ.o;omega
    have Fp:p.1.size<=u3.1.size:=aL Xn.st.size (ai (w:=wc) (w':=u3));have u:Hx (dk u3 p.1.size r a l):=ae B6.o.at;obtain⟨A',c',W2,hap,ho,hch⟩:=OF u.o.cs St (by rw[R.o];omega) Fp;have hR:=u.o.abA hch ho;have hlen:(l.cs++List.replicate k 0).length=L+k:=by rw[bh,eY,R.o]
    rw[hlen]at hR;rw[R.o]at hap;have HR:=ae hR;have Fm:az W2 r 197 (j9 a l):=hch.ak u.o.hd λad e hx=>(u.o.apart.2.1 r ⟨ad,e,hx⟩).1 rfl;have fr2:∀i,W2.frozen? ⟨r,i,none⟩=false:=λi=>Fm.frozen i;have cr2:Cl W2 r 1 (.slice a.Ac L a.cc):=⟨by rw[Fm.cell 1,<-R.o];rfl⟩;have HHP:=ae hap;clear hR hlen hch ho Fm hap
    go_wp2_with (at_builtin;refine Lib.wpList_append_run _ rfl _ _ 26 3 rfl _ _ rfl rfl _ _ (HHP.o _) ?_)
    go_meet
    case rel=>
     have k9:Kf (a.F r) (({a with Ac:=A',cc:=c'}:r7).F r) w (W2.setCell ⟨r,1,none⟩ (.slice A' (L+k) c')):=(HK.o.trans (Kf.later _ (w:=wc))).trans HR.o.2;refine⟨{a with Ac:=A',cc:=c'},ae ?_,ae k9,k9.prev λb hb=>(M.o.lt b hb).1⟩;rw[R.o,<-Kq.o];exact HR.o.1
  case rest=>
   obtain⟨I,G,m5,Xo⟩:=hcut;have Kr:Hx (∀ad:Addr,True):=ae λ_=>bX;clear Kr;have E:e+wd<=(l.cs++List.replicate (e+wd-l.cs.length) 0).length:=by simp;omega
   obtain⟨C2,Xp⟩:=lg (l.cs++List.replicate (e+wd-l.cs.length) (0:Int));rw[<-Xp]at E G;have abF:C2.length<=16777216:=by have:=R.o;have:=abE.o;rw[Xp];simp;omega
   obtain⟨gc,Su⟩:∃gc,I.Ac=some ⟨gc,0,none⟩:=by
    rcases G.o.cs.form with⟨_,h0,_⟩|⟨g,cur,hA,_⟩
    .have h0':C2=[]:=h0;rw[h0']at E;simp at E;omega
    .exact⟨g,hA⟩
   have Sv:C2.length<=I.cc:=G.o.cs.ii;obtain⟨L2,Sw⟩:=lh C2.length;have Xd:Cl wc r 1 (.slice (some ⟨gc,0,none⟩) L2 I.cc):=⟨by rw[G.o.hd.cell 1,<-Su,<-Sw];rfl⟩;rw[Sw]at E Sv abF;have ko:=λW=>Hu W (A:=some ⟨gc,0,none⟩) (e:=e) rfl h1 E Sv;have Hw:=G.o.cs;rw[Su]at Hw;obtain⟨X,abG,ho⟩:=Kp (t:=e) (k:=wd) (cap:=I.cc-e) Hw h1 (by show _<=C2.length;rw[Sw];exact E);have u:=ae (G.o.cells Su ho (kY (by rw[eY];show _<=C2.length;rw[Sw];exact E)));have sN:Hx (Kf (a.F r) (I.F r) w (wc.setRow gc X)):=ae (m5.o.trans (mu (.inr (.inr (.inl ⟨_,Su,rfl⟩))) X));have Sx:=ae Xp;have or2:Old r wc:=⟨G.o.hd.lt⟩;clear Xp Su Sw Hw ho c1 orc
   go_upto_region 15 with fail
   obtain⟨W1,k5⟩:=lg (wc.setRow gc X);rw[<-k5]at u sN;have fr1:∀k,W1.frozen? ⟨r,k,none⟩=false:=λk=>u.o.hd.frozen k;have c51:Cl W1 r 5 (.int .i64 (l.nx:Int)):=⟨u.o.hd.cell 5⟩;obtain⟨C,B8⟩:=lh (l.nx+1);have Ks:=ae B8;have hw5:IntKind.i64.wrap ((l.nx:Int)+1)=(C:Int):=by have V:=vn.o;rw[a7];omega
   clear B8;have or1:Old r W1:=⟨u.o.hd.lt⟩;rw[<-k5];clear k5 Xd ko abG or2
   go_upto_region 16 with fail
   obtain⟨CS,hCS⟩:=lg (jO C2 e (List.replicate wd 0));rw[<-hCS]at u;have HCS:=ae hCS;obtain⟨v3,Hy⟩:=lg ({l with cs:=CS,nx:=C});have S:dk (W1.setCell ⟨r,5,none⟩ (.int .i64 (C:Int))) p.1.size r I v3:=by rw[Hy];exact u.o.ud (i:=5) (by rfl) rfl rfl rfl
   have Fi:Kf (a.F r) (I.F r) w (W1.setCell ⟨r,5,none⟩ (.int .i64 (C:Int))):=sN.o.av (.inl rfl) _;obtain⟨W3,hW3⟩:=lg (W1.setCell ⟨r,5,none⟩ (.int .i64 (C:Int)));rw[<-hW3]at S Fi;have pW3:aj W3 p:=Fi.prev λb hb=>(M.o.lt b hb).1;obtain⟨nb,Y⟩:=lh l.bs.length;have O:v3.bs=l.bs:=by rw[Hy]
   have HBR:Hx (aU W3 p.1.size 311 3 I.Ab I.cb nb (h7 v3.bs)):=ae (by have V:=S.bs;rw[O,Y]at V;rw[O];exact V);have c23:Cl W3 r 2 (.slice I.Ab nb I.cb):=⟨by rw[S.hd.cell 2,<-Y,<-O];rfl⟩;have c53:Cl W3 r 5 (.int .i64 (C:Int)):=⟨by rw[S.hd.cell 5,Hy];rfl⟩;have or3:Old r W3:=⟨S.hd.lt⟩;have ZH:Hx (p.1.size<=W3.1.size):=ae pW3.st.size;have HNB:Hx (nb<=16777216):=ae (by rw[<-Y];exact zm.o);have HIB:Hx (i<=nb):=ae (by rw[<-Y];exact N.o);have Fq:=ae Hy;have ZI:=ae S;have ZJ:=ae Fi;have zl:=ae Y;have abH:=ae O;rw[<-hW3];clear hCS Hy S Fi Y O fr1 c51 or1;clear u sN Fo N;have u:=ZI;have sN:=ZJ;have Fo:=ZH;have N:=HIB;clear hW3 ZI ZJ ZH HIB;obtain⟨b4,hb4⟩:=lg (l.bs.take i++⟨(C:Int),e,wd⟩::l.bs.drop i);have B9:b4.length=nb+1:=by rw[hb4];have:=zl.o;have:=N.o;simp;omega
   have HB4:=ae hb4;have OG:=ae B9
   go_cut [] (λwx=>∃a4 v4,Hx (dk wx p.1.size r a4 v4)/\Hx (v4={l with cs:=CS,nx:=C,bs:=b4})/\Hx (Kf (a.F r) (a4.F r) w wx)/\aj wx p)
   case first=>
    refine a6 p (λw9=>Cl w9 r 5 (.int .i64 (C:Int))) ao aq (λT _=>?_);refine bR 0 ?_;refine bR 1 ?_;refine bR 2 ?_;refine bR 3 ?_;refine bR 5 ?_;refine bR 6 ?_;refine bR 7 ?_;refine bR 8 ?_;refine bR 9 ?_;refine bR 10 ?_;refine bR 11 ?_;refine bR 12 ?_;refine qr 4 13 (λK hK=>?_) (λK hK=>?_)
    focus
     go_simp;refine aG hK ?_ ⟨aR p T,aq⟩;refine aK 13 λK hK=>?_;go_simp;refine aG hK ?_ ⟨aR p _,aq⟩;refine bc (λT _ _=>?_)
    rotate_left
    focus
     go_simp;refine aG hK ?_ ⟨aR p _,aq⟩;refine bc (λT _ _=>?_);refine aK 4 λK hK=>?_;go_simp;refine aG hK ?_ ⟨aR p T,aq⟩
    all_goals
     refine aK 14 λK hK=>?_;go_simp;obtain⟨Sy,abI⟩:aU T p.1.size 311 3 I.Ab I.cb nb (h7 v3.bs)/\True:=⟨HBR.o.at,bX⟩;refine(aav Sy (Hn _) (us:=[.int .i64 (C:Int),.int .i64 (e:Int),.int .i64 (wd:Int)]) Bx.ak rfl (by simp[Value.oneCell']) (λad U=>rE (bu (HBR.o.lt ad U) ai)) rfl N.o HNB.o (aL Fo.o ai)).mono ?_;rintro U u6 ⟨A6,c6,rfl,r6,J⟩;dsimp only;have Xq:∀i,u6.cell? ⟨r,i,none⟩=T.cell? ⟨r,i,none⟩:=λi=>d9 (J.off r (u.o.at (w':=T)).hd.lt λad U hx=>(u.o.apart.2.2 r ⟨ad,U,hx⟩).1 rfl);have p6:aj u6 p:=⟨(aP p T).trans ⟨J.base.os,J.base.tape,J.base.output,J.size,λb hb=>J.off b (bu hb (aP p T).size) λad U hx=>absurd hb (hC.2 (by rw[<-hx];exact(Sy.af ⟨ad,U,rfl⟩).1))⟩⟩;refine hK.out _ _ ⟨p6,⟨(Xq 5).trans (Cl.eq (w:=T))⟩⟩ (λhHeld=>?_);have CH6:=ae J;have R6:=ae r6;have KU6:Hx (Kf (a.F r) (I.F r) w T):=ae (sN.o.trans (Kf.later _ (w:=W3)));have MU6:Hx (dk T p.1.size r I v3):=ae u.o.at;have hc6:u6.cell? ⟨r,2,none⟩=some (.slice I.Ab nb I.cb):=(Xq 2).trans (Cl.eq (w:=T));have hf6:u6.frozen? ⟨r,2,none⟩=false:=(J.ak (u.o.at (w':=T)).hd (λad U hx=>(u.o.apart.2.2 r ⟨ad,U,hx⟩).1 rfl)).frozen 2;have c56:Cl u6 r 5 (.int .i64 (C:Int)):=⟨(Xq 5).trans (Cl.eq (w:=T))⟩;clear hHeld hK K J r6 Sy abI Xq
     try dsimp only[Act.put,List.setIfInBounds_toArray,List.set_cons_zero,List.set_cons_succ]
     refine bR 15 ?_;refine bR 16 ?_;refine aK 17 λK hK=>?_;go_simp;refine aG hK ?_ ⟨⟨(aP p u6).setCell (p:=⟨r,2,none⟩) u.o.hr _⟩,Cl.aY aq (.inr am)⟩;clear hK K hc6 hf6;refine a9 ?_
     go_wp2_with fail
     go_meet
     case rel=>
      have Sz:=MU6.o.ZC (bs':=b4) (A':=A6) (c':=c6) CH6.o (by
       have V:=R6.o;rw[OG.o,HB4.o];rw[abH.o,<-CZ,<-C0]at V;have U:h7 (l.bs.take i++⟨(C:Int),e,wd⟩::l.bs.drop i)=h7 (l.bs.take i)++[.int .i64 (C:Int),.int .i64 (e:Int),.int .i64 (wd:Int)]++h7 (l.bs.drop i):=by
        rw[jl];simp[h7]
       rw[U];exact V)
      rw[OG.o]at Sz;obtain⟨a4,ha4⟩:=lg ({I with Ab:=A6,cb:=c6});rw[<-ha4]at Sz;obtain⟨v4,hv4⟩:=lg ({v3 with bs:=b4});rw[<-hv4]at Sz;have Z:Hx (v4={l with cs:=CS,nx:=C,bs:=b4}):=ae (by rw[hv4,Fq.o]);have P:=ae Sz.1;have OH:Hx (Kf (a.F r) (a4.F r) w (u6.setCell ⟨r,2,none⟩ (.slice A6 (nb+1) c6))):=ae (KU6.o.trans Sz.2);exact⟨a4,v4,P,Z,OH,OH.o.prev λb hb=>(M.o.lt b hb).1⟩
   case rest=>
   obtain⟨a4,v4,P,Z,OH,pW4⟩:=hcut;obtain⟨W4,rfl⟩:=lg wc;have c34:Cl W4 r 3 (.map (some a4.q)):=⟨P.o.hd.cell 3⟩;have c54:Cl W4 r 5 (.int .i64 (C:Int)):=⟨by rw[P.o.hd.cell 5,Z.o];rfl⟩;have or4:Old r W4:=⟨P.o.hd.lt⟩;have HNM:Hx ((C:Int)∉v4.mp.map (·.1)):=ae (by
    rw[Z.o]
    show(C:Int)∉l.mp.map (·.1)
    intro hm;obtain⟨x,hx,ug⟩:=bw.1 hm;obtain⟨b,hb,rfl⟩:=D.o.J6 x hx;have h8:=D.o.hb b hb;have V:=Ks.o;dsimp only at ug;omega)
   have abJ:Hx ((j9 a4 {v4 with mp:=v4.mp++[((C:Int),(e:Int))]})[5]?=some (.int .i64 (C:Int))):=ae (by rw[Z.o];rfl);clear c23 c53 or3 pW3
   go_upto_region 17 with fail
   refine a6 p (λw9=>Cl w9 r 3 (.map (some a4.q))/\Cl w9 r 5 (.int .i64 (C:Int))) ao ⟨aq,aq⟩ (λuz _=>?_);refine bT 0 ?_;refine bT 1 ?_;refine bT 2 ?_;refine bT 3 ?_;refine bT 4 ?_;refine bT 5 ?_;refine bT 6 ?_;refine bT 7 ?_;refine bT 8 ?_;refine aK 9 λK hK=>?_;obtain⟨W5,Sm,hm5,SB,hs5,Kt⟩:=(P.o.at (w':=uz)).mp.RZ (k:=(C:Int)) (z:=(e:Int)) HNM.o;have Xr:=(P.o.at (w':=uz)).Sa hm5 SB;have vo:=ae Xr;have uh:Hx (Kf (a.F r) (a4.F r) w W5):=ae ((OH.o.trans (Kf.later _ (w:=W4))).trans (Fh (.inr (.inl rfl)) SB hs5 Kt));have hpq:p.1.size<=a4.q:=P.o.hq;go_simp;refine aG hK ?_ ⟨⟨⟨Kt.os.trans (aP p uz).os,Kt.tape.trans (aP p uz).tape,Kt.output.trans (aP p uz).output,by rw[hs5];exact(aP p uz).size,λb hb=>by rw[SB b om];exact(aP p uz).block b hb⟩⟩,⟨Xr.hd.cell 3⟩,⟨(Xr.hd.cell 5).trans abJ.o⟩⟩;clear hK K Sm hm5 SB hs5 Kt Xr;refine a9 ?_
   skip
   obtain⟨v5,OI⟩:=lg ({v4 with mp:=v4.mp++[((C:Int),(e:Int))]}:da);have sb:Hx (v5={l with cs:=CS,nx:=C,bs:=b4,mp:=l.mp++[((C:Int),(e:Int))]}):=ae (by rw[OI,Z.o]);rw[<-OI]at vo;have pW5:aj W5 p:=uh.o.prev λb hb=>(M.o.lt b hb).1;have c65:Cl W5 r 6 (.int .i64 (l.lv:Int)):=⟨by rw[vo.o.hd.cell 6,sb.o];rfl⟩;have fr5:∀k,W5.frozen? ⟨r,k,none⟩=false:=λk=>vo.o.hd.frozen k;have or5:Old r W5:=⟨vo.o.hd.lt⟩;obtain⟨l2,ui⟩:=lh (l.lv+wd);have hw6:IntKind.i64.wrap ((l.lv:Int)+(wd:Int))=(l2:Int):=by have V:=abC.o;rw[a7];omega
   have Xs:=ae ui;clear ui c34 c54 or4 pW4 OI
   go_upto_region 19 with fail
   obtain⟨v6,hv6⟩:=lg ({v5 with lv:=l2});have Ku:Hx (v6={l with cs:=CS,nx:=C,bs:=b4,mp:=l.mp++[((C:Int),(e:Int))],lv:=l2}):=ae (by rw[hv6,sb.o]);obtain⟨W6,se⟩:=lg (W5.setCell ⟨r,6,none⟩ (.int .i64 (l2:Int)));have HM:Hx (dk W6 p.1.size r a4 v6):=ae (by rw[se,hv6];exact vo.o.ud (i:=6) (by rfl) rfl rfl rfl);have OJ:Hx (Kf (a.F r) (a4.F r) w W6):=ae (by rw[se];exact uh.o.av (.inl rfl) _);have pW6:aj W6 p:=OJ.o.prev λb hb=>(M.o.lt b hb).1;have c66:Cl W6 r 6 (.int .i64 (l2:Int)):=⟨by rw[HM.o.hd.cell 6,Ku.o];rfl⟩;have c86:Cl W6 r 8 (.int .i64 (v6.pe:Int)):=⟨HM.o.hd.cell 8⟩;obtain⟨pe,uj⟩:=lh (max l.pe l2);have abK:max (v6.pe:Int) (l2:Int)=(pe:Int):=by
    have V:v6.pe=l.pe:=by rw[Ku.o]
    omega
   have or6:Old r W6:=⟨HM.o.hd.lt⟩;have HPE:=ae uj;rw[<-se];clear se uj hv6 c65 fr5 or5 pW5;refine a6 p (λw9=>Cl w9 r 6 (.int .i64 (l2:Int))) ao aq (λuq _=>?_);refine bR 0 ?_;refine bR 1 ?_;refine bR 2 ?_;refine bR 3 ?_;refine bR 5 ?_;refine bR 6 ?_;refine bR 7 ?_;refine bR 8 ?_;refine aK 4 λK hK=>?_;go_simp;refine aG hK ?_ ⟨aR p uq,aq⟩;refine bR 9 ?_;refine bR 10 ?_;refine bR 11 ?_;refine aK 12 λK hK=>?_;have Sc:uq.cell? ⟨r,8,none⟩=some (.int .i64 (v6.pe:Int)):=(HM.o.at (w':=uq)).hd.cell 8;have Sd:uq.frozen? ⟨r,8,none⟩=false:=(HM.o.at (w':=uq)).hd.frozen 8;go_simp;refine aG hK ?_ ⟨⟨(aP p uq).setCell (p:=⟨r,8,none⟩) HM.o.hr _⟩,Cl.aY aq (.inr am)⟩;clear hK K Sc Sd;refine a9 ?_
   skip
   obtain⟨v7,hv7⟩:=lg ({v6 with pe:=pe});have HV7:Hx (v7={l with cs:=CS,nx:=C,bs:=b4,mp:=l.mp++[((C:Int),(e:Int))],lv:=l2,pe:=pe}):=ae (by rw[hv7,Ku.o]);obtain⟨W7,Xt⟩:=lg (uq.setCell ⟨r,8,none⟩ (.int .i64 (pe:Int)));have Xu:Hx (dk W7 p.1.size r a4 v7):=ae (by rw[Xt,hv7];exact(HM.o.at (w':=uq)).ud (i:=8) (by rfl) rfl rfl rfl);have B5:Hx (Kf (a.F r) (a4.F r) w W7):=ae (by rw[Xt];exact(OJ.o.trans (Kf.later _ (w:=W6))).av (.inl rfl) _);have c77:Cl W7 r 7 (.int .i64 (l.hi:Int)):=⟨by rw[Xu.o.hd.cell 7,HV7.o];rfl⟩;have c57:Cl W7 r 5 (.int .i64 (C:Int)):=⟨by rw[Xu.o.hd.cell 5,HV7.o];rfl⟩;have fr7:∀k,W7.frozen? ⟨r,k,none⟩=false:=λk=>Xu.o.hd.frozen k;obtain⟨hh,hhh⟩:=lh (max l.hi (e+wd));have adw:max (l.hi:Int) ((e:Int)+(wd:Int))=(hh:Int):=by omega
   have HHH:=ae hhh;rw[<-Xt];clear Xt hhh hv7 abK c66 c86 or6 pW6
   go_wp2_with fail
   go_ret2;have hm8:dk (W7.setCell ⟨r,7,none⟩ (.int .i64 (hh:Int))) p.1.size r a4 {v7 with hi:=hh}:=Xu.o.ud (i:=7) (by rfl) rfl rfl rfl;have V:C=v.nx+1:=by rw[<-Ks.o,vn.o]
   refine⟨by subst V;rfl,a4,l.p8 i e wd l.pk,ae ?_,ae ?_,vl,ae (B5.o.av (.inl rfl) _)⟩
   .have U:({v7 with hi:=hh}:da)=l.p8 i e wd l.pk:=by
     rw[HV7.o,HCS.o,Sx.o,HB4.o,<-Ks.o,<-Xs.o,<-HPE.o,<-HHH.o,<-Xs.o];rfl
    rw[<-U];exact hm8
   .refine wG.of Q.o abD.o (ei zk.o) (λb hb=>?_) HEC.o h1 (Nat.le_succ_of_le D.o.pk);rw[<-zk.o];exact HG.o b hb
end Go.Proofs.YtmkjnlifimffkaaGreat
