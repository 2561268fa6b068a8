/- Lemmas. -/
import Derived.Test.YtmkjnlifimffkaaGreatG17
import Derived.Conc.LoneSelect
import Derived.Carry
namespace Go.Proofs.YtmkjnlifimffkaaGreat
open Go.RowKit Tryz
set_option linter.all false
set_option maxRecDepth 100000
set_option maxHeartbeats 0
variable{Γ:Prop}
attribute[local irreducible]Calls
variable{p u w' w1:World}{GB g i j l r:Nat}{m2:kP}{J:OR}{O:List Int}{L:List (List Int)}{cap id kd:Int}{s:jI}
section
variable{w:World}{B k n:Nat}{m m':kP}{e e':tu}{gs:List Tn}{X:Tn}{N:a6}{P:List TV}{x:TV}
def zR2(h:Γ:=by go_ret;exact⟨rfl,D,E,b,F,G,I,U ⟨by have:=y.o.1;omega,by have:=y.o.2;omega⟩,K⟩):=h
def adP[aM p w](T:Z (zu p J N L P x))(c:fI N O L l P x)(hJ:J.l=l)(hI:gw N O L l P x cap s e)(hS:g5 p w J g r GB m e gs X)(hc:lS (dt N cap) s kd id=0)(hn:N.nodes.length<=200)(oJ:e.A.nx<=100000000000)(td:e.A.mv<=100000000000):
  () 55 #[.pointer g,.agg #[kd,id]] w (yb p J g r GB N O L l P x cap (g4 (dt N cap) s kd id) e.A 1000):=by
 have CB:=@az;have hr:=(s1 hc).1;have z:e.A.nx<=1000000000000:=Y;have C:e.A.mv<=1000000000000:=Y;have M:=U c;have Q:=U hI;have R:=U hS;have S:=U hc;have HJ:=U hJ;clear c hI hS hc hJ;rcases K3 hr with rfl|rfl|rfl|rfl|rfl|rfl
 .clear hr;go_in;go_upto_region 1 with fail;refine aa (λu V k0=>?_);go_wp2_with (go_at_call 97;refine(Gd (p:=p) T M Q (R.o.at (w':=u)) S (.inl rfl) hn z C).mono ?_;rintro e9 u9 ⟨rfl,D,E,b,F,G,I,y,K⟩);exact zR2
 .clear hr;go_in;go_upto_region 1 with fail;refine aa (λu V k0=>?_);go_wp2_with (go_at_call 97;refine(Gd (p:=p) T M Q (R.o.at (w':=u)) S (.inr rfl) hn z C).mono ?_;rintro e9 u9 ⟨rfl,D,E,b,F,G,I,y,K⟩);exact zR2
 .clear hr;go_in;go_upto_region 1 with fail;refine aa (λu V k0=>?_);go_upto_region 6 with fail;refine wp_region_still_tail 5 ap ap ?_;change wpStill _ _ (u).drew _ _ _;simp only[f6,d8,iH,fl];(repeat still_step);refine gH ?_;go_wp2_with (go_at_call 98;refine(UN (p:=p) M Q (R.o.at (w':=u.drew)) S).mono ?_;rintro e9 u9 ⟨rfl,D,E,b,F,G,I,y,K⟩);exact zR2
 .clear hr;go_in;go_upto_region 1 with fail;refine aa (λu V k0=>?_);go_wp2_with (go_at_call 99;refine(UO (p:=p) (id:=id) T M HJ Q (R.o.at (w':=u)) S).mono ?_;rintro e9 u9 ⟨rfl,D,E,b,F,G,I,y,K⟩);exact zR2
 .clear hr;go_in;go_upto_region 1 with fail;refine aa (λu V k0=>?_);go_wp2_with (go_at_call 100;refine(UP (p:=p) (id:=id) T M HJ Q (R.o.at (w':=u)) S hn z C).mono ?_;rintro e9 u9 ⟨rfl,D,E,b,F,G,I,y,K⟩);exact zR2
 clear hr;go_in;go_upto_region 1 with fail;refine aa (λu V k0=>?_);go_wp2_with (go_at_call 101;refine(ZK (p:=p) T M Q (R.o.at (w':=u)) S hn oJ td).mono ?_;rintro e9 u9 ⟨rfl,D,E,b,F,G,I,y,K⟩);go_ret;exact⟨rfl,D,E,b,F,G,I,y,K⟩
end
variable{A B PA XA XB:Option Addr}{c cp cx d dx m mx np:Nat}{ps:List Tn}{E P1 P2 P3 P4:Int}
section
variable{w:World}{K:Option Addr}{n k nx cap:Nat}{N:a6}{is:List (Int×Int)}{x:TV}
def U6[aW w A n B m N][Ts w PA np ps][Sl w XA nx x.1][Sl w XB mx x.2][Is w K k is](j:Z N.fits)(hs:Z N.small)(r:Z (bm N=0))(hP:Z ((ps.map Tn.tv).map (·.1)=bQ N))(hO:Z (eP ps))(u:Z (x.1=N.ed))(hr:aw x.1 x.2=true)(b:np<=100000000)(y:k<=65536)(l:cap<=16777216)
  (z:Z (lJ N (cap:Int) is=E)) (C:Z (pA N (cap:Int) is=(P1,P2,P3,P4))):
  () 52 #[.agg #[(A,n,c),(B,m,d),(PA,np,cp),(XA,nx,cx),(XB,mx,dx),(K,k,g),cap]] w (aL w (.tuple #[.agg #[P1,P2,P3,P4],E])):=by
 have F:=@az;have G:=@aP;have e:=U hr;have d1:decide ((cap:Int)<0)=false:=by simp
 have I:decide ((16777216:Int)<(cap:Int))=false:=by simp;omega
 clear hr;go_in;go_upto_region 1 with fail;refine dd (λJ L k1 k2=>?_);go_wp2_with (first|(go_at_call 24;refine mv (C7 j hs r hP hO u e b) λM _=>?_)|(go_at_call 14;refine mv (Q9 j hs y Y z C) λD _=>?_));refine aZ (v:=.tuple #[.agg #[P1,P2,P3,P4],E]) ?_ rfl ?_;rw[ct rfl];go_simp;exact⟨rfl,⟨((((aO w D).setCell (p:=⟨w.1.size+1,0,none⟩) (db _) _).setCell (p:=⟨w.1.size+1,1,none⟩) (db _) _).setCell (p:=⟨w.1.size+1,2,none⟩) (db _) _).setCell (p:=⟨w.1.size+1,3,none⟩) (db _) _⟩⟩
end
section
open Go.Conc Go.RowKit
def EU(w:ab):() 54 #[.chan none] w λe w'=>e=.returned (.bool false)/\w'=w:=by
 refine calls_of_loneTo (λcs=>?_) (λw' h=>by cases h.1);have e:Frame.enter prog 54 #[.chan none] .normal=(base 54).at ⟨#[.chan none,undef,undef,undef,undef,undef,undef],[]⟩ [.code (f54.body.getD .skip)]:=by simp[Frame.enter,Frame.at,func54,base,f54]
 rw[e];refine LoneTo.goes (n:=12) ?_;simp only[f54,sC];s_c stepG_seq;s_reg;s_op;s_c stepG_region_end;s_c stepG_seq;s_reg;s_op;s_c stepG_region_end;s_c stepG_seq;s_reg;s_stop;refine LoneTo.step (step_lone_select_recv_nil (z:=.int .i64 0) (stepG_comm (cases:= #[rcaseNil an]) (blocking:=false) (shape:=.select) (w':=w) rfl rfl ao (by simp[go_sem,execOp,rcaseNil,Act.eval]))) ?_;rw[Frame.finish_at];walk_nrm;refine LoneTo.goes (n:=11) ?_;s_op;s_op;s_c stepG_region_end;s_c stepG_block;s_cond false;s_c stepG_seq;s_reg;s_op;s_c stepG_region_end;s_c stepG_ret';s_stop;exact LoneTo.done ⟨.returned (.bool false),_,rfl,⟨rfl,rfl⟩,rfl,rfl,rfl,rfl,_,func54,by simp[results,f54,Frame.at]⟩
def L7{w:ab}:() 54 #[.chan none] w (aL w (.bool false)):=(EU w).mono λ_ _ ⟨h,b⟩=>⟨h,by rw[b];exact⟨aY _ _⟩⟩
end
variable{R q:Nat}{z0 z1 z2 z3 z4 z5 z6 z7:Value}
def Rv(w:ab)(N:a6)(P:List TV)(x:TV)(cap np:Nat)(cost:Int)(e:Ending)(w':ab):Prop:=
 ∃A c gs X pk hi mv,e=.returned (.tuple #[.agg #[.int .i64 (rW N P x),.slice A np c,.slice X.A X.zs.length X.c,.slice X.B X.xs.length X.d,.int .i64 pk,.int .i64 hi,.int .i64 mv,cost],an])/\Ts w' A np gs/\gs.map Tn.tv=(lH N P x).2/\TE w' X/\X.tv=(lH N P x).1.getD 0 T0/\hi<=cap/\aj w' w
section
variable{w:World}{K:Option Addr}{n k nx cap:Nat}{N:a6}{gs:List Tn}{P:List TV}{x:TV}{is:List (Int×Int)}{e:tu}{X:Tn}{M:kP}{C:jH}
def DC{cp:Int}(h:lJ N cp is=0):iy N=0/\(gG (dt N cp) (mi N.nodes.length) is).1=0/\od (dt N cp) (gG (dt N cp) (mi N.nodes.length) is).2=true:=by
 unfold lJ at h;split at h
 .rename_i j;unfold Iy at h;split at h
  .split at h
   .rename_i b;split at h;rename_i y;exact⟨j,b,y⟩;cases h
   rename_i b;exact absurd h b
  rename_i b;exact absurd h b
 rename_i b;exact absurd h b
def Pf{a:Int×Int}{t:List (Int×Int)}(h:(gG C s (a::t)).1=0):lS C s a.1 a.2=0/\gG C s (a::t)=gG C (g4 C s a.1 a.2) t:=by
 unfold gG at h;split at h;rename_i b;exact⟨b,by rw[gG,ah b]⟩;rename_i b;exact absurd h b
theorem g5.oj(h:g5 p w J g r GB M e gs X):Ts w GB J.np gs:=by
 have y:qw w p.1.size GB J.np gs:=⟨by rw[h.gl];exact h.row,λt ht=>(h.tL t ht).te,λt ht=>⟨λb hb=>⟨((h.tL t ht).oa b hb).1,λj=>((h.tL t ht).oa b hb).2.2.1 (du.1 j).symm⟩,λb hb=>⟨((h.tL t ht).ob b hb).1,λj=>((h.tL t ht).ob b hb).2.2.1 (du.1 j).symm⟩⟩⟩;have:=y.oj;rw[h.gl]at this;exact this
def g5.o(h:g5 p w J g r GB M e gs X){ob:Nat}(y:ob<p)(j:Kf (λb=>b=ob) (λb=>b=ob) w w'):Ts w' GB J.np gs/\TE w' X:=by
 have z:=h.lK.1;refine⟨j.Dw h.oj (λ_ b hb=>by have:=du.1 hb;omega) λt ht=>⟨λb hb=>?_,λb hb=>?_⟩,j.rd h.oZ.te.1 λb hb=>?_,j.rd h.oZ.te.2.1 λb hb=>?_,h.oZ.te.2.2⟩;have:=((h.tL t ht).oa b hb).2.2.2;omega;have:=((h.tL t ht).ob b hb).2.2.2;omega;have:=(h.oZ.oa b hb).2.2.2;omega;have:=(h.oZ.ob b hb).2.2.2;omega
def kf8:Kf (λb=>b=q) (λb=>b=q) u ((((((((u.setCell (q,0) z0).setCell (q,1) z1).setCell (q,2) z2).setCell (q,3) z3).setCell (q,4) z4).setCell (q,5) z5).setCell (q,6) z6).setCell (q,7) z7):=
 ((((((((Kf.refl (λb=>b=q) u).av (q:=⟨q,0,none⟩) rfl z0).av (q:=⟨q,1,none⟩) rfl z1).av (q:=⟨q,2,none⟩) rfl z2).av (q:=⟨q,3,none⟩) rfl z3).av (q:=⟨q,4,none⟩) rfl z4).av (q:=⟨q,5,none⟩) rfl z5).av (q:=⟨q,6,none⟩) rfl z6).av (q:=⟨q,7,none⟩) rfl z7
theorem Pg[aM w u](hq:w<=q):aj ((((((((u.setCell (q,0) z0).setCell (q,1) z1).setCell (q,2) z2).setCell (q,3) z3).setCell (q,4) z4).setCell (q,5) z5).setCell (q,6) z6).setCell (q,7) z7) w:=
 kf8.prev λb j=>by rw[j];exact hq
def zR1(h:Γ:=by rintro D ⟨F,r1,r2,G,I,Q,S⟩;go_simp;try(with_reducible rfl)):=h
def zRe(h:Γ:=by simp[intOf];omega):=h
def Rw[aW w A n B m N][Ts w PA np ps][Sl w XA nx x.1][Sl w XB mx x.2][ki:Is w K k is](hf:Z N.fits)(hs:Z N.small)(hc:Z (fI N O L l P x))(hP:Z (ps.map Tn.tv=P))(hO:Z (eP ps))(EI:np<=1000000)(lx:nx<=cx)(Ys:mx<=dx)(lp:np<=cp)(lB:m<=d)(hk:k<=65536)(V:cap<=16777216)(hn:N.nodes.length<=200)
  (HR:Z (lJ N (cap:Int) is=0)) (HV:Z (pA N (cap:Int) is=(P1,P2,P3,P4))):
  () 19 #[.agg #[(A,n,c),(B,m,d),(PA,np,cp),(XA,nx,cx),(XB,mx,dx),.slice K k R,cap],.chan none] w (Rv w N P x cap np P2):=by
 have CC:=@cJ;obtain⟨CB,CP,FB⟩:=gW;have HE:Z (bm N=0):=hc.o.hE;have vQ:Z ((ps.map Tn.tv).map (·.1)=bQ N):=U (by rw[hP.o];exact hc.o.hF.ps);have HX:Z (x.1=N.ed):=hc.o.hF.xs;have HXO:Z (aw x.1 x.2=true):=hc.o.hF.It.1;obtain⟨z1,z2,z3⟩:=DC HR;have LA:=U z2;have HZ3:=U z3;have BB:Z (k=is):=ki.len;clear z1 z2 z3;go_in;go_upto_region 1 with fail;refine dd (λu0 p0 k1 k2=>?_);go_upto_region 2 with(go_at_call 52;refine mv (U6 hf hs HE vQ hO HX HXO Y hk V HR HV) λu1 _=>?_);refine aa (λu2 t8 k3=>?_);obtain⟨sb,IY⟩:=lg u1.1.size;rw[<-IY]at k3⊢;have xZ:Z (w.1.size+1<sb):=U (by rw[IY];exact(am:Bx u1 (w.1.size+1) _ _).ak.lt);clear IY;go_upto_region 5 with(go_at_call 53;refine(UR hf hs hc hP hO EI lx Ys lp lB V).mono ?_;rintro e u3 ⟨p,SA,ns,sc,g,r,GB,M0,gs0,X0,rfl,pp,HB,uu,p3⟩);obtain⟨J,hJ⟩:=lg (⟨A,n,c,B,m,d,PA,np,cp,XA,nx,cx,XB,mx,dx,K,k,R,cap,l,SA,ns,sc⟩:OR);have hJl:J.l=l:=by rw[hJ]
 have HJN:Z (J.np=np):=U (by rw[hJ]);rw[<-hJ]at HB uu;have UA:Z (w.1.size+1<p):=(am:Bx p (w.1.size+1) _ _).ak.lt;clear hJ;go_wp2_with fail;go_loopw [33] (λs33 wr=>∃(j:Nat) (s:jI) (M:kP) (e:tu) (gs:List Tn) (X:Tn),j<=k/\s33=.int .i64 (j:Int)/\Z (g5 p wr J g r GB M e gs X)/\Z (gw N O L l P x (cap:Int) s e)/\Z (gG (dt N (cap:Int)) s (is.drop j)=gG (dt N (cap:Int)) (mi N.nodes.length) is)/\Z (e.A.nx<=1000*j/\e.A.mv<=1000*j)/\aj wr p) (λs33 _=>k-(intOf s33).toNat);exact⟨0,mi N.nodes.length,M0,ex0 cap P,gs0,X0,aR _,rfl,uu,U (afg hc V),U rfl,U ⟨al _,al _⟩,p3⟩;obtain⟨j,s,M,e,gs,X,hj,rfl,z,HI,HG,wL,hp⟩:=hrel;clear uu p3;by_cases bD:j<k
 .obtain⟨b1,o1,kd,id,rfl,mM,v1,v2,e1⟩:=ki.get bD;(have K9:is.drop j=(kd,id)::is.drop (j+1):=by obtain⟨h1,h2⟩:=bj.1 e1.o;rw[e7 h1,h2]);have hg:=HG.o;rw[K9]at hg;obtain⟨TZ,wF⟩:=Pf (by rwa[hg]);rw[wF]at hg;have HCE:=U TZ;have L2:=U hg;(have oJ:e.A.nx<=100000000000:=by have:=wL.o.1;omega);(have td:e.A.mv<=100000000000:=by have:=wL.o.2;omega);(have i1:(j:Int)<(k:Int):=by omega);clear K9 hg TZ wF;go_upto_region 10 with fail;refine aa (λu4 Lj k4=>?_);go_wp2_with (first|(go_at_call 54;refine mv L7 λu5 _=>?_)|(go_at_call 55;refine(adP (p:=p) HB hc hJl HI (z.o.at (w':=u5)) HCE hn oJ td).mono ?_;rintro e9 u9 ⟨rfl,m5,e5,gs5,X5,H1,H2,H3,H4⟩));go_roundw;exact⟨j+1,_,m5,e5,gs5,X5,Y,by go_num,H1,H2,L2,U ⟨by have:=H3.o.1;have:=wL.o.1;omega,by have:=H3.o.2;have:=wL.o.2;omega⟩,H4⟩;exact zRe
 obtain rfl:j=k:=Y;have hG:=HG.o;rw[eU (by rw[<-BB.o];exact al _),gG]at hG;have hw:od (dt N (cap:Int)) s=true:=by have:=HZ3.o;rw[<-hG]at this;exact this
 obtain⟨f1,f2,f3⟩:=HI.o.whole hc hw;have O6:Z (e.lo=rW N P x):=f1;have Us:=U f2;have Yh:=U f3;have HHI:Z ((e.A.hi:Int)<=(cap:Int)):=U (by have:=HI.o.mb.ar.hi;have:=HI.o.cap;omega);clear hG hw f1 f2 f3;obtain⟨wx,rfl⟩:=lg wr;have c8:Cl wx g 8 (.pointer r):=z.o.ms.cl z.o.cs.c8;have c17:Cl wx g 17 (.int .i64 e.lo):=z.o.ms.cl z.o.lo;have c18:Cl wx g 18 (.slice GB J.np J.np):=z.o.ms.cl z.o.gr;have c19:Cl wx g 19 (.slice X.A X.zs.length X.c):=z.o.ms.cl z.o.x0;have c20:Cl wx g 20 (.slice X.B X.xs.length X.d):=z.o.ms.cl z.o.x1;have Tq:Cl wx sb 1 P2:=⟨(k3.ak.at (w':=wx)).cell 1⟩;go_upto_region 16 with fail;refine aU w (λw9=>Cl w9 g 8 (.pointer r)/\Cl w9 g 17 (.int .i64 e.lo)/\Cl w9 g 18 (.slice GB J.np J.np)/\Cl w9 g 19 (.slice X.A X.zs.length X.c)/\Cl w9 g 20 (.slice X.B X.xs.length X.d)/\Cl w9 sb 1 P2) ap ⟨am,am,am,am,am,am⟩ (λy _=>?_);refine b0 (i:=0) (d:=48) (v:=?_) rfl rfl ap ap ap (λ_ _ _ h=>h) ap ⟨aC,⟨am,am,am,am,am,am⟩⟩ ?_ ?_;rotate_left;exact zR1;try simp only[List.set]
 refine b0 (i:=1) (d:=49) (v:=?_) rfl rfl ap ap ap (λ_ _ _ h=>h) ap ⟨aC,⟨am,am,am,am,am,am⟩⟩ ?_ ?_;rotate_left;exact zR1;try simp only[List.set]
 refine b0 (i:=2) (d:=50) (v:=?_) rfl rfl ap ap ap (λ_ _ _ h=>h) ap ⟨aC,⟨am,am,am,am,am,am⟩⟩ ?_ ?_;rotate_left;exact zR1;try simp only[List.set]
 refine b0 (i:=3) (d:=51) (v:=?_) rfl rfl ap ap ap (λ_ _ _ h=>h) ap ⟨aC,⟨am,am,am,am,am,am⟩⟩ ?_ ?_;rotate_left;exact zR1;try simp only[List.set]
 refine b0 (i:=4) (d:=52) (v:=?_) rfl rfl ap ap ap (λ_ _ _ h=>h) ap ⟨aC,⟨am,am,am,am,am,am⟩⟩ ?_ ?_;rotate_left;exact zR1;try simp only[List.set]
 refine b0 (i:=5) (d:=53) (v:=?_) rfl rfl ap ap ap (λ_ _ _ h=>h) ap ⟨aC,⟨am,am,am,am,am,am⟩⟩ ?_ ?_;rotate_left;exact zR1;try simp only[List.set]
 refine b0 (i:=6) (d:=54) (v:=?_) rfl rfl ap ap ap (λ_ _ _ h=>h) ap ⟨aC,⟨am,am,am,am,am,am⟩⟩ ?_ ?_;rotate_left;exact zR1;try simp only[List.set]
 refine b0 (i:=7) (d:=55) (v:=?_) rfl rfl ap ap ap (λ_ _ _ h=>h) ap ⟨aC,⟨am,am,am,am,am,am⟩⟩ ?_ ?_;rotate_left;exact zR1;try simp only[List.set]
 refine b0 (i:=9) (d:=57) (v:=?_) rfl rfl ap ap ap (λ_ _ _ h=>h) ap ⟨aC,⟨am,am,am,am,am,am⟩⟩ ?_ ?_;rotate_left;exact zR1;try simp only[List.set]
 refine b0 (i:=10) (d:=58) (v:=?_) rfl rfl ap ap ap (λ_ _ _ h=>h) ap ⟨aC,⟨am,am,am,am,am,am⟩⟩ ?_ ?_;rotate_left;exact zR1;try simp only[List.set]
 refine b0 (i:=11) (d:=59) (v:=?_) rfl rfl ap ap ap (λ_ _ _ h=>h) ap ⟨aC,⟨am,am,am,am,am,am⟩⟩ ?_ ?_;rotate_left;exact zR1;try simp only[List.set]
 refine b0 (i:=12) (d:=60) (v:=?_) rfl rfl ap ap ap (λ_ _ _ h=>h) ap ⟨aC,⟨am,am,am,am,am,am⟩⟩ ?_ ?_;rotate_left;exact zR1;try simp only[List.set]
 refine b0 (i:=14) (d:=62) (v:=?_) rfl rfl ap ap ap (λ_ _ _ h=>h) ap ⟨aC,⟨am,am,am,am,am,am⟩⟩ ?_ ?_;rotate_left;exact zR1;try simp only[List.set]
 refine b0 (i:=15) (d:=63) (v:=?_) rfl rfl ap ap ap (λ_ _ _ h=>h) ap ⟨aC,⟨am,am,am,am,am,am⟩⟩ ?_ ?_;rotate_left;exact zR1;try simp only[List.set]
 refine b0 (i:=16) (d:=64) (v:=?_) rfl rfl ap ap ap (λ_ _ _ h=>h) ap ⟨aC,⟨am,am,am,am,am,am⟩⟩ ?_ ?_;rotate_left;exact zR1;try simp only[List.set]
 refine b0 (i:=17) (d:=65) (v:=?_) rfl rfl ap ap ap (λ_ _ _ h=>h) ap ⟨aC,⟨am,am,am,am,am,am⟩⟩ ?_ ?_;rotate_left;exact zR1;try simp only[List.set]
 refine b0 (i:=19) (d:=67) (v:=?_) rfl rfl ap ap ap (λ_ _ _ h=>h) ap ⟨aC,⟨am,am,am,am,am,am⟩⟩ ?_ ?_;rotate_left;exact zR1;try simp only[List.set]
 refine b0 (i:=20) (d:=68) (v:=?_) rfl rfl ap ap ap (λ_ _ _ h=>h) ap ⟨aC,⟨am,am,am,am,am,am⟩⟩ ?_ ?_;rotate_left;exact zR1;try simp only[List.set]
 refine aJ 8 λK hK=>?_;go_simp;refine(VW (z.o.at (w':=y)).ms.ar).mono ?_;rintro e y ⟨rfl,_⟩;dsimp only;refine aE hK ?_ ⟨aG w _,⟨am,am,am,am,am,am⟩⟩;refine aJ 13 λK hK=>?_;go_simp;refine(VX (z.o.at (w':=y)).ms.ar).mono ?_;rintro e y ⟨rfl,_⟩;dsimp only;refine aE hK ?_ ⟨aG w _,⟨am,am,am,am,am,am⟩⟩;refine aJ 18 λK hK=>?_;go_simp;refine(RW (z.o.at (w':=y)).ms.ar).mono ?_;rintro e y ⟨rfl,_⟩;dsimp only;refine aE hK ?_ ⟨aG w _,⟨am,am,am,am,am,am⟩⟩;refine b0 (i:=21) (d:=69) (v:=?_) rfl rfl ap ap ap (λ_ _ _ h=>h) ap ⟨aC,⟨am,am,am,am,am,am⟩⟩ ?_ ?_;rotate_left;exact zR1;try simp only[List.set]
 refine aJ 22 λK hK=>?_;go_simp;obtain⟨u8,T⟩:=lg ((((((((y.setCell (w.1.size+1,0) (.int .i64 e.lo)).setCell (w.1.size+1,1) (.slice GB J.np J.np)).setCell (w.1.size+1,2) (.slice X.A X.zs.length X.c)).setCell (w.1.size+1,3) (.slice X.B X.xs.length X.d)).setCell (w.1.size+1,4) (e.A.pe:Int)).setCell (w.1.size+1,5) (e.A.hi:Int)).setCell (w.1.size+1,6) (e.A.mv:Int)).setCell (w.1.size+1,7) P2);rw[<-T];have HT:Z (Ts u8 GB J.np gs/\TE u8 X):=U ((z.o.at (w':=y)).o UA (by rw[T];exact kf8));have Lb:aj u8 w:=by rw[T];exact Pg (db _)
 have K8:Bx u8 (w.1.size+1) 69 _:=⟨by rw[T];exact((((((((Bx.ak (w:=y) (g:=w.1.size+1)).av 0 _).av 1 _).av 2 _).av 3 _).av 4 _).av 5 _).av 6 _).av 7 _⟩;have S8:∀b,b<y.1.size->b≠w.1.size+1->u8.heap[b]?=y.heap[b]?:=(by rw[T];exact kf8:Kf (λb=>b=w.1.size+1) (λb=>b=w.1.size+1) y u8).keep;have Z1:u8.heap[g]?=y.heap[g]?:=S8 g (z.o.at (w':=y)).ms.old.lt (by have:=UA.o;have:=z.o.lK.2.2.1;omega);have hs8:u8.heap[sb]?=y.heap[sb]?:=S8 sb (bN k3.ak.lt ai) (by have:=xZ.o;omega);clear T S8;have e8:Cl u8 g 8 _:=⟨(d4 Z1).trans (Cl.eq (w:=y))⟩;have e17:Cl u8 g 17 _:=⟨(d4 Z1).trans (Cl.eq (w:=y))⟩;have e18:Cl u8 g 18 _:=⟨(d4 Z1).trans (Cl.eq (w:=y))⟩;have e19:Cl u8 g 19 _:=⟨(d4 Z1).trans (Cl.eq (w:=y))⟩;have e20:Cl u8 g 20 _:=⟨(d4 Z1).trans (Cl.eq (w:=y))⟩;have e21:Cl u8 sb 1 _:=⟨(d4 hs8).trans (Cl.eq (w:=y))⟩;refine aE hK ?_ ⟨Lb,e8,e17,e18,e19,e20,e21⟩;refine b0 (i:=23) (d:=5) (v:=?_) rfl rfl ap ap ap (λ_ _ _ h=>h) ap ⟨aC,⟨am,am,am,am,am,am⟩⟩ ?_ ?_;rotate_left;exact zR1;try simp only[List.set]
 refine a8 ?_;go_wp2_with fail;obtain⟨t1,t2⟩:=HT.o;refine aZ (v:=.tuple #[.agg #[.int .i64 (rW N P x),(GB,np,np),.slice X.A X.zs.length X.c,.slice X.B X.xs.length X.d,e.A.pe,e.A.hi,e.A.mv,P2],an]) ?_ rfl ⟨_,_,gs,X,_,_,_,rfl,by rw[<-HJN.o];exact t1,by rw[z.o.gv,Us.o],t2,by rw[z.o.xv,Yh.o],HHI,Lb⟩;rw[ct rfl];go_simp;rw[O6.o,HJN.o];exact⟨rfl,rfl⟩
end
variable{X:World}{T T2 T3:TypeId}{b1 b2:Nat}
def U7{Q:World->Prop}{T0 j b l r y:TypeId}{c0 c1 c2 c3 c4 e m c7 c8:dw}
  (h:∀u,aj u X->Bx u X.1.size T0 c0->Bx u (X.1.size+1) T c1->Bx u (X.1.size+1+1) T2 c2->Bx u (X.1.size+1+1+1) T3 c3->Bx u (X.1.size+1+1+1+1) j c4->Bx u (X.1.size+1+1+1+1+1) b e->Bx u (X.1.size+1+1+1+1+1+1) l m->Bx u (X.1.size+1+1+1+1+1+1+1) r c7->Bx u (X.1.size+1+1+1+1+1+1+1+1) y c8->Q u):
  Q (((((((((X.alloc (.cells c0 T0)).alloc (.cells c1 T)).alloc (.cells c2 T2)).alloc (.cells c3 T3)).alloc (.cells c4 j)).alloc (.cells e b)).alloc (.cells m l)).alloc (.cells c7 r)).alloc (.cells c8 y)):=by
 have z:Bx ((((((X.alloc (.cells c0 T0)).alloc (.cells c1 T)).alloc (.cells c2 T2)).alloc (.cells c3 T3)).alloc (.cells c4 j)).alloc (.cells e b)) (X.1.size+1+1+1+1+1) b e:=⟨aA.eF _ _ _ aI⟩;have i6:Bx (((((((X.alloc (.cells c0 T0)).alloc (.cells c1 T)).alloc (.cells c2 T2)).alloc (.cells c3 T3)).alloc (.cells c4 j)).alloc (.cells e b)).alloc (.cells m l)) (X.1.size+1+1+1+1+1+1) l m:=⟨aA.eF _ _ _ aI⟩;have B:Bx ((((((((X.alloc (.cells c0 T0)).alloc (.cells c1 T)).alloc (.cells c2 T2)).alloc (.cells c3 T3)).alloc (.cells c4 j)).alloc (.cells e b)).alloc (.cells m l)).alloc (.cells c7 r)) (X.1.size+1+1+1+1+1+1+1) r c7:=⟨aA.eF _ _ _ aI⟩;have i8:Bx (((((((((X.alloc (.cells c0 T0)).alloc (.cells c1 T)).alloc (.cells c2 T2)).alloc (.cells c3 T3)).alloc (.cells c4 j)).alloc (.cells e b)).alloc (.cells m l)).alloc (.cells c7 r)).alloc (.cells c8 y)) (X.1.size+1+1+1+1+1+1+1+1) y c8:=⟨aA.eF _ _ _ aI⟩;exact h _ (aC) am am am am am am am am am
section
variable{w:World}{b3 b4 b5 b6 b7:Nat}
def zR4(h:Γ:=by rcases j with _|_|_|_|_|_|_|_|_|_|j<;>first|(exact(e.ak.cell _).trans b)|simp[Tx]at b):=h
theorem abP(k0:Bx u R 3 #[(2:Int)])(k1:Bx u b1 3 #[an])(k2:Bx u b2 3 #[(2:Int),(2:Int)])(y:Bx u b3 3 #[(2:Int)])(l:Bx u b4 25 #[(b2,2,2),(b3,1,1)])(z:Bx u b5 3 #[(1:Int),(1:Int)])(k6:Bx u b6 3 #[(2:Int)])
  (e:Bx u b7 84 #[(8:Int),an,an,an,an,an,an,(),(b1,1,1),(b4,2,2),(7:Int),an,an,an,an,an,an,(),(b5,2,2),(),(12:Int),an,(2:Int),(1:Int),an,an,an,(),(b6,1,1),()]):
  aW u R 1 (some ⟨b7,0,none⟩) 3 gy:=by
 have hs:dX u b4 2 [⟨some ⟨b2,0,none⟩,2,2,[2,2]⟩,⟨some ⟨b3,0,none⟩,1,1,[2]⟩]:=⟨λj x b=>by
  rcases j with _|_|j
  .obtain rfl:=cU b;exact⟨b4,0,rfl,l.ak.lt,l.ak.cell 0,(Sl.Qg (h:=k2)).rd,rfl,al _⟩
  .obtain rfl:=cU b;exact⟨b4,0,rfl,l.ak.lt,l.ak.cell 1,(Sl.AJ (h:=y)).rd,rfl,al _⟩
  .simp at b,rfl⟩
 have r:dX u none 0 []:=⟨λj x b=>by simp at b,rfl⟩;refine⟨Sl.AJ (h:=k0),⟨[⟨⟨8,0,0,0,0,0,0,[]⟩,none,0,0,some ⟨b1,0,none⟩,1,1,[0],some ⟨b4,0,none⟩,2,2,[⟨some ⟨b2,0,none⟩,2,2,[2,2]⟩,⟨some ⟨b3,0,none⟩,1,1,[2]⟩]⟩,⟨⟨7,0,0,0,0,0,0,[]⟩,none,0,0,some ⟨b5,0,none⟩,2,2,[1,1],none,0,0,[]⟩,⟨⟨12,0,2,1,0,0,0,[]⟩,none,0,0,some ⟨b6,0,none⟩,1,1,[2],none,0,0,[]⟩],λj x b=>?_,rfl⟩,rfl⟩;have m:bf 0:=⟨ao,ao⟩;rcases j with _|_|_|j;obtain rfl:=cU b;refine⟨b7,0,rfl,e.ak.lt,λj v b=>?_,Sl.empty,Sl.AJ (h:=k1),hs,al _,al _,al _,m⟩;exact zR4;obtain rfl:=cU b;refine⟨b7,0,rfl,e.ak.lt,λj v b=>?_,Sl.empty,Sl.Qg (h:=z),r,al _,al _,al _,m⟩;exact zR4;obtain rfl:=cU b;refine⟨b7,0,rfl,e.ak.lt,λj v b=>?_,Sl.empty,Sl.AJ (h:=k6),r,al _,al _,al _,m⟩;exact zR4;simp at b
def zRm(h:Γ:=by decide+kernel):=h
def uB:() 8 #[] w (aL w (.bool true)):=by
 obtain⟨CB,CP,FB⟩:=gW;go_in;go_upto_region 2 with fail;refine U7 (λu0 p0 k0 k1 k2 k3 k4 k5 k6 k7 k8=>?_);have a0:=abP k0 k1 k2 k3 k4 k5 k6 k7;have l:Z gy.fits:=ZA;have r:Z gy.small:=U2;have b:Z (bm gy=0):=Du;have F1:∀W:World,() 26 #[(1:Int)] W (λe w'=>e=.returned (4294967296:Int)/\W=w'):=λW=>o7 1 W;have F2:∀W:World,() 26 #[(2:Int)] W (λe w'=>e=.returned (8589934592:Int)/\W=w'):=λW=>o7 2 W;have F3:∀W:World,() 26 #[(3:Int)] W (λe w'=>e=.returned (12884901888:Int)/\W=w'):=λW=>o7 3 W;have F4:∀W:World,() 26 #[(4:Int)] W (λe w'=>e=.returned (17179869184:Int)/\W=w'):=λW=>o7 4 W;have F5:∀W:World,() 26 #[.int .i64 (-1)] W (λe w'=>e=.returned (-4294967296:Int)/\W=w'):=λW=>o7 (-1) W;have f1:=U F1;have f2:=U F2;have f3:=U F3;have f4:=U F4;have f5:=U F5;clear F1 F2 F3 F4 F5;have i1:cm [4294967296,8589934592,12884901888,17179869184]:=⟨by unfold bf;decide⟩;have i2:cm [0,4294967296]:=⟨by unfold bf;decide⟩;go_upto_region 3 with(first|(go_at_call 26;first|(refine(f1.o _).mono ?_;rintro e z ⟨rfl,rfl⟩)|(refine(f2.o _).mono ?_;rintro e z ⟨rfl,rfl⟩)|(refine(f3.o _).mono ?_;rintro e z ⟨rfl,rfl⟩)|(refine(f4.o _).mono ?_;rintro e z ⟨rfl,rfl⟩))|(go_at_call 25;refine(sM (zs:=[2,2]) (xs:=[4294967296,8589934592,12884901888,17179869184]) Y Y zRm).mono ?_;rintro e u1 ⟨A1,c1,B1,d1,rfl,Yp,Yq,M,lX1,fA1,fX1,t7⟩));refine aa (λv1 pv1 kw=>?_);go_upto_region 4 with(first|(go_at_call 26;refine(f1.o _).mono ?_;rintro e z ⟨rfl,rfl⟩)|(go_at_call 25;refine(sM (zs:=[2]) (xs:=[0,4294967296]) Y Y zRm).mono ?_;rintro e u2 ⟨A2,c2,B2,d2,rfl,oQ,mg,N,lX2,fA2,fX2,t8⟩));refine aa (λv2 Tp kb=>?_);go_upto_region 5 with(first|(go_at_call 26;first|(refine(f1.o _).mono ?_;rintro e z ⟨rfl,rfl⟩)|(refine(f5.o _).mono ?_;rintro e z ⟨rfl,rfl⟩))|(go_at_call 25;refine(sM (zs:=[2]) (xs:=[4294967296,-4294967296]) Y Y zRm).mono ?_;rintro e u3 ⟨A3,c3,B3,d3,rfl,sA3,sX3,O,P,fA3,fX3,YU⟩));refine aa (λv3 pv3 kx=>?_);obtain⟨y,Q⟩:=lh wK.length;have S:y<=65536:=by rw[<-Q];decide
 have L:=U Q;clear Q
 have M1:∀(u:ab) (A B:bz) (n m c d:Nat) [aW u A n B m gy],m<=12->() 17 #[.agg #[.slice A n c,.slice B m d],(1:Int),(100:Int)] u (nm u 1 wK 7 8 0 7 0):=λu A B n m c d _ j=>
  wI l r ao (U λu _=>Dp l r j (U ZB.1) (U ZB.2)) ao b rfl (U oo.1) (U oo.2)
 have M2:∀(u:ab) (A B:bz) (n m c d:Nat) [aW u A n B m gy],m<=12->() 17 #[.agg #[.slice A n c,.slice B m d],(2:Int),(100:Int)] u (nm u 2 wK 7 8 0 7 0):=λu A B n m c d _ j=>
  wI l r ao (U λu _=>Dq l r b j (U ZC.1) (U ZC.2)) ao b rfl (U oo.1) (U oo.2)
 have M3:∀(u:ab) (A B:bz) (n m c d:Nat) [aW u A n B m gy],m<=12->() 17 #[.agg #[.slice A n c,.slice B m d],(3:Int),(100:Int)] u (nm u 3 wK 7 8 0 7 0):=λu A B n m c d _ _=>
  wI l r ao (U λu _=>Dr l r b (U ZD.1) (U ZD.2)) ao b rfl (U oo.1) (U oo.2)
 have M4:∀(u:ab) (A B:bz) (n m c d:Nat) [aW u A n B m gy],() 17 #[.agg #[.slice A n c,.slice B m d],(4:Int),(100:Int)] u (aL u (Ds 27)):=λu A B n m c d _=>
  wJ l r (U λu _=>ET l r adL ao) b ao
 have C:∀(u:ab) (A B:bz) (n m c d:Nat) [aW u A n B m gy],m<=12->() 27 #[.agg #[.slice A n c,.slice B m d],(100:Int)] u (nm u 1 wK 7 8 0 7 0):=λu A B n m c d _ j=>
  U3 l r b (U λu _=>M1 u A B n m c d j) (U λu _=>M2 u A B n m c d j) ao (U λu _=>M3 u A B n m c d j) ao (U λu _=>M4 u A B n m c d) ao L L
 have D:=U C;clear M1 M2 M3 M4 C;go_upto_region 6 with(go_at_call 27;refine(D.o _ _ _ _ _ _ _ Y).mono ?_;rintro e u4 ⟨AC,cC,rfl,oC,Lj⟩;rw[L.o]);refine aa (λv4 pv4 kp=>?_);have iC:Is v4 AC y wK:=⟨(bZ.at (w':=v4) oC).rd,L.o.symm⟩;have HC:Z (fI gy [1,2,3] [[2],[2],[2],[1]] 3 Dt zA):=abN;have V:Z (lJ gy ((100:Nat):Int) wK=0):=oo.1;have HRV:Z (pA gy ((100:Nat):Int) wK=(7,8,0,7)):=oo.2
 have E:∀(u:ab) (A B PA XA XB K:bz) (n m c d np cp nx cx mx dx kc:Nat) (ps:List Tn) [aW u A n B m gy] [Ts u PA np ps] [Sl u XA nx zA.1] [Sl u XB mx zA.2] [Is u K y wK],ps.map Tn.tv=Dt->eP ps->np<=1000000->nx<=cx->mx<=dx->np<=cp->m<=d->
   () 19 #[.agg #[.slice A n c,.slice B m d,.slice PA np cp,.slice XA nx cx,.slice XB mx dx,.slice K y kc,(100:Int)],.chan none] u (Rv u gy Dt zA 100 np 8):=λu A B PA XA XB K n m c d np cp nx cx mx dx kc ps _ _ _ _ _ h1 h2 h3 h4 h5 h6 h7=>
  Rw (cap:=100) l r HC h1 h2 h3 h4 h5 h6 h7 S ao ao V HRV
 have F:=U E;have sx3:Sl v4 A3 1 zA.1:=(am:Sl v4 A3 1 [2]);have sy3:Sl v4 B3 2 zA.2:=(am:Sl v4 B3 2 [4294967296,-4294967296]);have M5:Z (([⟨A1,c1,[2,2],B1,d1,[4294967296,8589934592,12884901888,17179869184]⟩,⟨A2,c2,[2],B2,d2,[0,4294967296]⟩]:List Tn).map Tn.tv=Dt):=rfl;have kH:Z (eP [⟨A1,c1,[2,2],B1,d1,[4294967296,8589934592,12884901888,17179869184]⟩,⟨A2,c2,[2],B2,d2,[0,4294967296]⟩]):=λt ht=>by simp only[dE,tO,sy]at ht;rcases ht with rfl|rfl;exact⟨show aw [2,2] [4294967296,8589934592,12884901888,17179869184]=true from by decide+kernel,M.le⟩;exact⟨show aw [2] [0,4294967296]=true from by decide+kernel,N.le⟩
 have Ks:1<=c3:=O.le;have hy3:2<=d3:=P.le;clear E;go_upto_region 7 with(go_at_call 19;refine(F.o _ _ _ _ _ _ _ _ _ _ _ _ _ _ _ _ _ _ _ M5 kH Y Ks hy3 Y Y).mono ?_;rintro e u6 ⟨AG,cG,gs,X,pk,hi,mv,rfl,tG,hG,-,-,-,pu6⟩;rw[afm]);obtain⟨tg0,z0,G⟩:=afn;rw[G]at hG;obtain⟨bg,og,Ag,cg,zg,Bg,dg,xg,rfl,obg,cg0,cg1,sg1,sg2,-,-,I⟩:=tG.get (k:=1) Y;have hxg:zg=[2]/\xg=[-4294967296,z0]:=by (have h9:(gs.map Tn.tv)[1]?=some (zg,xg):=by rw[bo,I.o];rfl);rw[hG]at h9;have h8:(([2],[-4294967296,z0]):TV)=(zg,xg):=cU h9;injection h8 with h6 h7;exact⟨h6.symm,h7.symm⟩
 obtain⟨rfl,rfl⟩:=hxg;obtain⟨bh,oh,zh,rfl,obh,Z3,J⟩:=sg2.get (k:=0) aI;obtain rfl:(-4294967296:Int)=zh:=cU J.o;rw[d9]at Z3;have G1:Z (∀W:World,() 26 #[(1:Int)] W (aL W (4294967296:Int))):=λW=>(f1.o W).mono λ_ w' ⟨h,e⟩=>⟨h,by rw[e];exact⟨aY _ _⟩⟩;have G5:Z (∀W:World,() 26 #[.int .i64 (-1)] W (aL W (-4294967296:Int))):=λW=>(f5.o W).mono λ_ w' ⟨h,e⟩=>⟨h,by rw[e];exact⟨aY _ _⟩⟩;clear hG G I J tG;refine aa (λv6 pv6 ko=>?_);have hw9:IntKind.i64.wrap 2147483648=2147483648:=by rw[a7];omega
 go_upto_region 7 with fail;refine ax v6 ap (λux _=>?_);refine qL [0,1,2,3,4,5,6,7,8,9] ?_;refine aJ 10 λK hK=>?_;go_simp;refine(G1.o _).mono ?_;rintro e ux ⟨rfl,_⟩;dsimp only;refine aE hK ?_;refine qL [11,12,13,14,15,16,17,18,19,20,21,22,23,24,25,26,27,28,29,30,31,32,33,34,35,36,37,38,39] ?_;refine aJ 40 λK hK=>?_;go_simp;refine(G5.o _).mono ?_;rintro e ux ⟨rfl,_⟩;dsimp only;refine aE hK ?_;refine qL [41,42,43] ?_;refine a8 ?_;go_wp2_with fail;go_ret;exact⟨rfl,aG w _⟩
end
variable{x:Int}
structure Ch where
 W:List Int
 K:List Int
def Ch.n(c:Ch):Nat:=c.K.length
def Ch.w(c:Ch)(i:Nat):Int:=c.W.getD i 0
def Ch.k(c:Ch)(i:Nat):Int:=c.K.getD i 0
def Ch.kept(c:Ch)(l:Nat):Int:=if l=0 then 0 else c.w l
def Ch.single(c:Ch)(l r:Nat):Int:=c.w r+c.kept l
def Ch.own(c:Ch)(r:Nat):Int:=if r=c.n then c.k (r-1)else 0
def Ch.step(c:Ch)(l r k:Nat):Int:=c.w k+(if k-1=l then 0 else c.w (k-1))+(if r=c.n then 0 else c.w r)
def Ch.nd(c:Ch)(l r:Nat):Nat->Int
 |0=>0
 |j+1=>max (c.nd l r j) (c.step l r (l+j+1))
def Ch.cs(c:Ch)(l:Nat):Nat->Int
 |0=>0
 |j+1=>c.cs l j+c.k (l+j)
def Ch.pv(c:Ch)(V:Nat->Nat->Int->Int)(l r:Nat)(m:Int):Nat->Int
 |0=>1152921504606846976
 |j+1=>if c.nd l r (j+1)<=m then min (c.pv V l r m j) (c.cs l (j+1)+V (l+j+1) r (m-c.w (l+j+1))+V l (l+j+1) m)else c.pv V l r m j
def Ch.val(c:Ch):Nat->Nat->Nat->Int->Int
 |0,_,_,_=>1152921504606846976
 |d+1,l,r,m=>if r=l+1 then(if c.single l r<=m then c.own r else 1152921504606846976)else c.pv (c.val d) l r m (r-l-1)
def Ch.V(c:Ch)(l r:Nat)(m:Int):Int:=c.val (r-l) l r m
@[grind cases]structure Ch.Ok(c:Ch):Prop where
 n1:1<=c.n
 n2:c.n<=64
 len:c.W=c.n+1
 w1:∀z∈c.W,1<=z
 w2:∀z∈c.W,z<=65536
 k1:∀z∈c.K,0<=z
 k2:∀z∈c.K,z<=1099511627776
variable{c:Ch}
theorem Ch.yf{V b:Nat->Nat->Int->Int}{l r:Nat}{m:Int}:∀j,(∀i,i<j->∀x,V (l+i+1) r x=b (l+i+1) r x/\V l (l+i+1) x=b l (l+i+1) x)->c.pv V l r m j=c.pv b l r m j
 |0,_=>rfl
 |j+1,h=>by have e:=yf (m:=m) j λi hi=>h i Y;have u:=h j Y;simp only[pv];grind
def Ch.IZ:∀(d d' l r:Nat) (m:Int),l<r->r-l<=d->r-l<=d'->c.val d l r m=c.val d' l r m
 |0,_,l,r,m,h,h1,_=>Y
 |_+1,0,l,r,m,h,_,h2=>Y
 |d+1,d'+1,l,r,m,h,h1,h2=>by simp only[val];split;rfl;exact yf _ λi hi x=>⟨IZ d d' _ _ x Y Y Y,IZ d d' _ _ x Y Y Y⟩
def Ch.Z4{m:Int}(h:l<r)(hd:r-l<=d):c.val d l r m=c.V l r m:=IZ _ _ _ _ _ h hd (al _)
def Ch.sk{m:Int}:c.V l (l+1) m=if c.single l (l+1)<=m then c.own (l+1)else 1152921504606846976:=by
 rw[V,show l+1-l=0+1 from Y,val,ah rfl]
def Ch.oq{m:Int}(h:l+1<r):c.V l r m=c.pv c.V l r m (r-l-1):=by
 rw[V,show r-l=(r-l-1)+1 from Y,val,ag Y];exact yf _ λi hi x=>⟨Z4 Y Y,Z4 Y Y⟩
theorem Ch.Ok.DD(h:c.Ok)(i:Nat):c.w i<=65536:=by
 rw[w,a5];rcases hi:c.W[i]? with _|z;simp;exact h.w2 _ ay
def Ch.Ok.uC(h:c.Ok)(i:Nat):0<=c.w i:=by
 rw[w,a5];rcases hi:c.W[i]? with _|z;simp;have:=h.w1 _ (aK hi);simp;omega
theorem Ch.Ok.k_0(h:c.Ok)(i:Nat):0<=c.k i:=by
 rw[k,a5];rcases hi:c.K[i]? with _|z;simp;exact h.k1 _ ay
theorem Ch.Ok.Z5(h:c.Ok)(i:Nat):c.k i<=1099511627776:=by
 rw[k,a5];rcases hi:c.K[i]? with _|z;simp;exact h.k2 _ ay
def Ch.Ok.k9(h:c.Ok)(l:Nat):0<=c.kept l:=by
 unfold kept;split;omega;exact h.uC l
def Ch.Ok.I0(h:c.Ok)(l:Nat):c.kept l<=65536:=by
 unfold kept;split;omega;exact h.DD l
def Ch.Ok.abQ(h:c.Ok)(l r k:Nat):c.w k<=c.step l r k:=by
 have a:=h.uC (k-1);have b:=h.uC r;unfold step;split<;>split<;>omega
def Ch.Ok.abR(h:c.Ok)(l r k:Nat):c.step l r k<=196608:=by
 have a:=h.DD (k-1);have b:=h.DD r;have d:=h.DD k;unfold step;split<;>split<;>omega
def Ch.Z6(l r:Nat):∀j,0<=c.nd l r j
 |0=>by simp[nd]
 |j+1=>by have:=Z6 l r j;simp only[nd];omega
def Ch.Ok.afF(h:c.Ok)(l r:Nat):∀j,c.nd l r j<=196608
 |0=>by simp[nd]
 |j+1=>by have:=h.afF l r j;have:=h.abR l r (l+j+1);simp only[nd];omega
theorem Ch.Z7(b:i<=j):c.nd l r i<=c.nd l r j:=by
 induction b with
 |refl=>grind
 |step _ e=>simp only[nd];omega
def Ch.Z8:c.step l r (l+j+1)<=c.nd l r (j+1):=by simp only[nd];omega
def Ch.Ok.Z9(h:c.Ok){m:Int}(hm:c.nd l r (j+1)<=m):c.w (l+j+1)<=m:=by
 have:=h.abQ l r (l+j+1);have:=Z8 (c:=c) (l:=l) (r:=r) (j:=j);omega
def Ch.Ok.Gm(h:c.Ok)(l:Nat):∀j,0<=c.cs l j
 |0=>by simp[cs]
 |j+1=>by have:=h.Gm l j;have:=h.k_0 (l+j);simp only[cs];omega
def Ch.Ok.L8(h:c.Ok)(l:Nat):∀j:Nat,c.cs l j<=1099511627776*(j:Int)
 |0=>by simp[cs]
 |j+1=>by have:=h.L8 l j;have:=h.Z5 (l+j);simp only[cs];omega
def Ch.Mod(x:Int)(s:Nat):Prop:=x=1152921504606846976\/0<=x/\x<=70368744177664*(2*(s:Int)-1)
def zR9(h:Γ:=by rcases b with b|⟨E,F⟩;rcases e with e|⟨i1,i2⟩<;>omega;rcases e with e|⟨i1,i2⟩<;>omega):=h
def Ch.Ok.Rx(h:c.Ok){V:Nat->Nat->Int->Int}{l r:Nat}{m:Int}(hr:r<=c.n)(hV:∀y u x,y<u->u-y<r-l->u<=r->Mod (V y u x) (u-y)):
  ∀j,j<=r-l-1->Mod (c.pv V l r m j) (r-l)
 |0,_=>.inl rfl
 |j+1,hj=>by have e:=h.Rx (m:=m) hr hV j Y;simp only[pv];split;have a:=hV (l+j+1) r (m-c.w (l+j+1)) Y Y Y;have b:=hV l (l+j+1) m Y Y Y;have c0:=h.Gm l (j+1);have c2:=h.L8 l (j+1);have n2:=h.n2;(have B:((r-(l+j+1):Nat):Int)=(r:Int)-l-j-1:=by omega);(have C:((l+j+1-l:Nat):Int)=(j:Int)+1:=by omega);(have D:((r-l:Nat):Int)=(r:Int)-l:=by omega);unfold Mod at*;rw[B]at a;rw[C]at b;rw[D]at e⊢;have z:((j+1:Nat):Int)<=64:=Y;rcases a with a|⟨G,I⟩;exact zR9;exact zR9;exact e
theorem Ch.Ok.aaa(h:c.Ok):∀(s l r:Nat) (m:Int),r-l<=s->l<r->r<=c.n->Mod (c.V l r m) (r-l)
 |0,l,r,m,hs,hl,_=>Y
 |s+1,l,r,m,hs,hl,hr=>
  by
   by_cases e:r=l+1
   .subst e;rw[sk];split;refine .inr ?_;have a:=h.k_0 l;have b:=h.Z5 l;have:((l+1-l:Nat):Int)=1:=Y;rw[this];unfold own;grind;exact .inl rfl
   rw[oq Y];exact h.Rx hr (λj u x y z B=>h.aaa s j u x Y y Y) _ (al _)
def Ch.Ok.mod(h:c.Ok){m:Int}(b:l<r)(hr:r<=c.n):Mod (c.V l r m) (r-l):=h.aaa (r-l) l r m (al _) b hr
def Ch.Mod.lo{s:Nat}(h:Mod x s):0<=x:=by rcases h with h|h<;>omega
def Ch.Mod.hi{s:Nat}(h:Mod x s)(hs:s<=64):x<=1152921504606846976:=by rcases h with h|h<;>omega
def Ch.Mod.fin{s:Nat}(h:Mod x s)(hs:s<=64)(b:x<1152921504606846976):x<=70368744177664*127:=by rcases h with h|h<;>omega
theorem Ch.L9{V:Nat->Nat->Int->Int}{l r:Nat}{m e:Int}(hm:m<=e):∀j,(∀i,i<j->∀x y,x<=y->V (l+i+1) r y<=V (l+i+1) r x/\V l (l+i+1) y<=V l (l+i+1) x)->c.pv V l r e j<=c.pv V l r m j
 |0,_=>eb _
 |j+1,h=>by have u:=L9 hm j λi hi=>h i Y;have a:=(h j Y (m-c.w (l+j+1)) (e-c.w (l+j+1)) Y).1;have b:=(h j Y m e hm).2;simp only[pv];grind
def Ch.Ok.abS(h:c.Ok)(r:Nat):c.own r<=1152921504606846976:=by
 unfold own;split;have:=h.Z5 (r-1);omega;omega
theorem Ch.Ok.Ry(h:c.Ok):∀(s l r:Nat) (m j:Int),r-l<=s->l<r->m<=j->c.V l r j<=c.V l r m\/c.n<r
 |0,l,r,m,j,hs,hl,_=>Y
 |s+1,l,r,m,j,hs,hl,hm=>
  by
   by_cases hr:c.n<r;exact .inr hr;left;by_cases e:r=l+1
   .subst e;rw[sk,sk];by_cases u:c.single l (l+1)<=m;grind;rw[ag u];split;exact h.abS _;grind
   rw[oq Y,oq Y];refine L9 hm _ λi hi x y b=>⟨?_,?_⟩;rcases h.Ry s (l+i+1) r x y Y Y b with g|g;exact g;omega;rcases h.Ry s l (l+i+1) x y Y Y b with g|g;exact g;omega
def Ch.ws(c:Ch)(l:Nat):Nat->Int
 |0=>0
 |j+1=>c.ws l j+c.w (l+j+1)
def Ch.cq(c:Ch)(l r:Nat):Int:=c.kept l+2*c.ws l (r-l)
def Ch.Ar(l i:Nat):∀j,c.ws l (i+j)=c.ws l i+c.ws (l+i) j
 |0=>by simp[ws]
 |j+1=>by rw[<-pG,ws,Ar l i j,ws,pG l i j,Int.add_assoc]
def Ch.Ok.sn(h:c.Ok)(l:Nat):∀j,0<=c.ws l j
 |0=>by simp[ws]
 |j+1=>by have:=h.sn l j;have:=h.uC (l+j+1);simp only[ws];omega
def Ch.Ok.adQ(h:c.Ok)(b:i<=j):c.ws l i<=c.ws l j:=by
 obtain⟨d,rfl⟩:=Nat.exists_eq_add_of_le b;rw[Ar];have:=h.sn (l+i) d;omega
theorem Ch.Ok.aab(h:c.Ok)(u:l+j+1<r):c.step l r (l+j+1)<=c.ws l (r-l):=by
 have e:r-l=(j+1)+(r-l-j-2+1):=Y;have m:l+(j+1)+(r-l-j-2)+1=r:=Y;rw[e,Ar,ws.eq_2 c (l+(j+1)),m];have a:=h.sn (l+(j+1)) (r-l-j-2);have b:=h.uC r;unfold step;rw[Nat.add_sub_cancel];rcases j with _|i
 .simp only[d9,ws,vc];split<;>omega
 rw[ag Y,ws,ws];have y:=h.sn l i;grind
def Ch.Ok.aac(h:c.Ok){l r:Nat}:∀j,l+j<r->c.nd l r j<=c.ws l (r-l)
 |0,_=>by simpa[nd]using h.sn l (r-l)
 |j+1,hj=>by have a:=h.aac (l:=l) (r:=r) j Y;have b:=h.aab (l:=l) (r:=r) (j:=j) Y;simp only[nd];omega
def Ch.Ok.tN(h:c.Ok){m:Int}(u:l+j+1<r)(hm:c.cq l r<=m):c.cq (l+j+1) r<=m-c.w (l+j+1):=by
 unfold cq at*;have e:r-l=(j+1)+(r-(l+j+1)):=Y;rw[e,Ar,ws,show l+(j+1)=l+j+1 from rfl]at hm;have a:=h.sn l j;have b:=h.k9 l;have d:c.kept (l+j+1)=c.w (l+j+1):=by unfold kept;rw[ag Y]
 rw[d];omega
def Ch.Ok.wN(h:c.Ok){m:Int}(b:l+j+1<r)(hm:c.cq l r<=m):c.cq l (l+j+1)<=m:=by
 unfold cq at*;have:=h.adQ (l:=l) (i:=l+j+1-l) (j:=r-l) Y;omega
def Ch.Ok.DE(h:c.Ok){m:Int}(e:l+j<r)(hm:c.cq l r<=m):c.nd l r j<=m:=by
 have a:=h.aac (l:=l) (r:=r) j e;have b:=h.sn l (r-l);have d:=h.k9 l;unfold cq at hm;omega
def Ch.Ok.sq(h:c.Ok){m:Int}(hm:c.cq l (l+1)<=m):c.single l (l+1)<=m:=by
 unfold cq at hm;rw[show l+1-l=0+1 from Y,ws,ws,d9]at hm;have:=h.uC (l+1);unfold single;omega
theorem Ch.Ok.DF(h:c.Ok){l r:Nat}{m e:Int}(hm:c.cq l r<=m)(b:c.cq l r<=e):∀j,l+j<r->(∀i,i<j->∀x y,(c.cq (l+i+1) r<=x->c.cq (l+i+1) r<=y->c.V (l+i+1) r x=c.V (l+i+1) r y)/\(c.cq l (l+i+1)<=x->c.cq l (l+i+1)<=y->c.V l (l+i+1) x=c.V l (l+i+1) y))->
  c.pv c.V l r m j=c.pv c.V l r e j
 |0,_,_=>rfl
 |j+1,hj,hV=>by have u:=h.DF hm b j Y ay;simp only[pv];rw[ah (h.DE hj hm),ah (h.DE hj b),u,(hV j Y _ _).1 (h.tN Y hm) (h.tN Y b),(hV j Y _ _).2 (h.wN Y hm) (h.wN Y b)]
def Ch.Ok.yg(h:c.Ok):∀(s l r:Nat) (m b:Int),r-l<=s->l<r->c.cq l r<=m->c.cq l r<=b->c.V l r m=c.V l r b
 |0,l,r,m,b,hs,hl,_,_=>Y
 |s+1,l,r,m,b,hs,hl,hm,U5=>by by_cases e:r=l+1;subst e;rw[sk,sk,ah (h.sq hm),ah (h.sq U5)];rw[oq Y,oq Y];exact h.DF hm U5 _ Y λi hi x y=>⟨h.yg s _ _ x y Y Y,h.yg s _ _ x y Y Y⟩
theorem Ch.Ok.aad(h:c.Ok){m:Int}(b:l<r):c.V l r (min m (c.cq l r))=c.V l r m:=by
 by_cases e:m<=c.cq l r;grind;rw[Int.min_eq_right Y];exact h.yg (r-l) l r _ _ (al _) b (eb _) Y
def Ch.nv(c:Ch)(N:Nat->Nat->Int)(l r:Nat):Nat->Int
 |0=>1152921504606846976
 |j+1=>min (c.nv N l r j) (max (max (c.nd l r (j+1)) (c.w (l+j+1)+N (l+j+1) r)) (N l (l+j+1)))
def Ch.acG(c:Ch):Nat->Nat->Nat->Int
 |0,_,_=>1152921504606846976
 |d+1,l,r=>if r=l+1 then c.single l r else c.nv (c.acG d) l r (r-l-1)
def Ch.N(c:Ch)(l r:Nat):Int:=c.acG (r-l) l r
variable{z:Int}
def wB(z:Int):Bool:=decide (1<=z)&&decide (z<=65536)
def Ch.okB(c:Ch):Bool:=decide (1<=c.n)&&decide (c.n<=64)&&decide (c.W=c.n+1)&&c.W.all wB&&c.K.all ep
def Ch.adR{c:Ch}(h:c.okB=true):c.Ok:=by
 simp only[Ch.okB,bU,b9,dL,wB,ep]at h;obtain⟨⟨⟨⟨l,m⟩,r⟩,e⟩,j⟩:=h;exact⟨l,m,r,λz b=>(e z b).1,λz b=>(e z b).2,λz b=>(j z b).1,λz b=>(j z b).2⟩
def Gn{α:Type}{f:α->Bool}{l:List α}{k:Nat}{x:α}(h:(l.take k).all f=true)(b:l[k]?=some x)(e:f x=true):(l.take (k+1)).all f=true:=by
 rw[i5,b,Option.toList_some,va,h];simp[e]
def Ma{α:Type}{f:α->Bool}{l:List α}{k:Nat}(h:(l.take k).all f=true)(b:l<=k):l.all f=true:=by
 rwa[bV b]at h
def DG{α:Type}{f:α->Bool}{l:List α}{k:Nat}{x:α}(b:l[k]?=some x)(e:f x=false):l.all f=false:=by
 rw[pI];exact⟨x,aK b,by simp[e]⟩
section
variable{w:World}{n p:Nat}
def Rz:() 77 #[z] w (aL w (.bool (ep z))):=(nR z w).mono λ_ _ ⟨b,e⟩=>⟨b,e▸aC⟩
def zR7(h:Γ:=by have l:Z (c.W.all wB=false):=DG r.o (by simp[wB];omega);go_wp2_with fail;go_ret;exact⟨by rw[G.o,l.o];rfl,aC⟩):=h
def zR8(h:Γ:=by go_in;go_wp2_with fail;go_ret;exact⟨by rw[l.o];rfl,aC⟩):=h
def yh[a:Sl w A n c.W][b:Sl w B m c.K]:() 235 #[.agg #[(A,n,p),(B,m,q)]] w (aL w (.bool c.okB)):=by
 obtain⟨T,V⟩:=hY;have E:=U a.len;have j:Z (m=c.n):=b.len;by_cases J:1<=m;rotate_left;have l:Z (c.okB=false):=U (by unfold Ch.okB;rw[<-j.o,ew J];rfl);exact zR8;by_cases L:m<=64;rotate_left;have l:Z (c.okB=false):=U (by unfold Ch.okB;rw[<-j.o,ew L];simp);exact zR8;by_cases F:n=m+1;rotate_left;have l:Z (c.okB=false):=U (by unfold Ch.okB;rw[<-j.o,<-E.o,ew F];simp);have e:((n:Int) !=(m:Int)+1)=true:=by rw[jc];omega
 clear F;exact zR8
 subst F;have G:Z (c.okB=(c.W.all wB&&c.K.all ep)):=U (by
  unfold Ch.okB;rw[<-j.o,<-E.o,ea J,ea L,ea rfl];simp)
 go_in;go_wp2_with fail;go_loopw [28] (λi wr=>∃k:Nat,k<=m+1/\i=.int .i64 k/\Z ((c.W.take k).all wB=true)/\Bx wr w.1.size 244 #[.slice A (m+1) p,(B,m,q)]/\aj wr w) (λi _=>m+1-(intOf i).toNat);exact⟨0,aR _,rfl,U rfl,am,aC⟩;obtain⟨k,N,rfl,D,X,hp⟩:=hrel;by_cases y:k<m+1
 .obtain⟨O,o1,z,rfl,I,P,r⟩:=a.get y;by_cases Q:1<=z;rotate_left;exact zR7;by_cases R:z<=65536;rotate_left;exact zR7;have C:=U (Gn D r.o (by simp[wB];omega));clear r;go_wp2_with fail;go_roundw;exact⟨k+1,Y,by go_num,C,am,aC⟩;exact zRe
 have M:Z (c.okB=c.K.all ep):=U (by rw[G.o,Ma D.o (by rw[<-E.o];omega),z9]);obtain⟨v,rfl⟩:=lg wr;go_wp2_with fail;go_loopw [42] (λi wr=>∃k:Nat,k<=m/\i=.int .i64 k/\Z ((c.K.take k).all ep=true)/\aj wr v) (λi _=>m-(intOf i).toNat);exact⟨0,aR _,rfl,U rfl,aC⟩;obtain⟨k,N,rfl,D,hp⟩:=hrel;by_cases y:k<m
 .obtain⟨O,o1,z,rfl,I,P,r⟩:=b.get y;rcases hz:ep z with _|_
  .have l:Z (c.K.all ep=false):=DG r.o hz;go_wp2_with (go_at_call 77;refine(Rz).mono ?_;rintro e u ⟨rfl,_⟩);go_ret;exact⟨by rw[M.o,l.o];rfl,aC⟩
  have C:=U (Gn D r.o hz);clear r;go_wp2_with (go_at_call 77;refine(Rz).mono ?_;rintro e u ⟨rfl,_⟩);go_roundw;exact⟨k+1,Y,by go_num,C,aC⟩;exact zRe
 have S:Z (c.okB=true):=U (by rw[M.o];exact Ma D (by show c.n<=k;rw[<-j.o];omega));go_wp2_with fail;go_ret;exact⟨by rw[S.o];rfl,aC⟩
def Ch.aae(h:c.W[i]?=some z):c.w i=z:=by rw[Ch.w,a5,h];rfl
def Ch.afG(h:c.K[i]?=some z):c.k i=z:=by rw[Ch.k,a5,h];rfl
def Ch.fb(c:Ch)(cap:Int):Int:=if c.okB then(if cap<0\/4096<cap then 11 else 0)else 10
def zR5(h:Γ:=by go_in;go_wp2_with (go_at_call 235;refine(yh).mono ?_;rintro e u ⟨rfl,_⟩);go_ret;exact⟨by rw[b.o];rfl,aC⟩):=h
def yi[Sl w A n c.W][Sl w B m c.K]:() 197 #[.agg #[(A,n,p),(B,m,q)],cap] w (aL w (c.fb cap:Int)):=by
 have r:=@az;rcases h:c.okB with _|_;have b:Z (c.fb cap=10):=U (by rw[Ch.fb,h];rfl);exact zR5;by_cases j:cap<0;have b:Z (c.fb cap=11):=U (by rw[Ch.fb,h,ah rfl,ah (.inl j)]);exact zR5;by_cases l:4096<cap;focus have b:Z (c.fb cap=11):=U (by rw[Ch.fb,h,ah rfl,ah (.inr l)])
 rotate_left;focus have b:Z (c.fb cap=0):=U (by rw[Ch.fb,h,ah rfl,ag Y])
 all_goals go_in;go_wp2_with (go_at_call 235;refine(yh).mono ?_;rintro e u ⟨rfl,_⟩);go_ret;exact⟨by rw[b.o];rfl,aC⟩
def zRc(h:Γ:=by go_in;go_wp2_with fail;go_ret;exact⟨by rw[b.o];rfl,aC⟩):=h
def Mb[a:Sl w A n c.W](r:l<n):() 236 #[.agg #[(A,n,p),(B,m,q)],l] w (aL w (c.kept l:Int)):=by
 obtain⟨y,C⟩:=hY;by_cases e:l=0;subst e;have b:Z (c.kept 0=0):=U (by rw[Ch.kept,ah rfl]);exact zRc;obtain⟨D,o1,z,rfl,u,E,j⟩:=a.get r;have b:Z (c.kept l=z):=U (by rw[Ch.kept,ag e,Ch.aae j.o]);clear j;exact zRc
def Sl.DH[a:Sl w A n c.W](r:l<n):∃b off,A=some ⟨b,off,none⟩/\Old b w/\w.cell? (b,off+l)=some (.int .i64 (c.w l)):=by
 obtain⟨u,o1,z,rfl,e,j,y⟩:=a.get r;rw[<-Ch.aae y.o]at j;exact⟨u,o1,rfl,e,j⟩
def Sl.aaf[a:Sl w A n c.K](r:l<n):∃b off,A=some ⟨b,off,none⟩/\Old b w/\w.cell? (b,off+l)=some (.int .i64 (c.k l)):=by
 obtain⟨u,o1,z,rfl,e,j,y⟩:=a.get r;rw[<-Ch.afG y.o]at j;exact⟨u,o1,rfl,e,j⟩
def zR6(h:Γ:=by refine a8 ?_;go_wp2_with fail;go_ret;exact⟨by rw[u.o];rfl,aC⟩):=h
def Ph[Sl w A n c.W](h:Z c.Ok)(C:l<n)(hr:r<n):() 237 #[.agg #[(A,n,p),(B,m,q)],.agg #[l,r]] w (aL w (c.single l r:Int)):=by
 obtain⟨D,E⟩:=hY;have b:=h.o.uC r;have j:=h.o.DD r;have a3:=h.o.k9 l;have a4:=h.o.I0 l;have u:Z (c.single l r=c.w r+c.kept l):=rfl;have F:IntKind.i64.wrap (c.w r+c.kept l)=c.w r+c.kept l:=by rw[a7];omega
 clear b j a3 a4;obtain⟨G,o1,rfl,y,I⟩:=Sl.DH (c:=c) (w:=w) (A:=A) hr;go_in;go_wp2_with fail;refine aq ap (λz _=>?_);refine qL [0,1,2,3,4,5,6,7,8] ?_;refine aJ 9 λK hK=>?_;go_simp;refine(Mb Y).mono ?_;rintro e z ⟨rfl,_⟩;dsimp only;refine aE hK ?_;refine qL [10,11] ?_;exact zR6
def zR3(h:Γ:=by clear y e G I a3 a4 C D u;go_in;go_wp2_with fail;go_ret;exact⟨by rw[z.o];rfl,aC⟩):=h
def zRb(h:Γ:=by (have O:((r:Int) !=(m:Int))=true:=by rw[jc];omega);exact zR3):=h
def zRd(h:Γ:=by (have O:((r:Int) !=(m:Int))=false:=by simp;omega);exact zR3):=h
def DI[a:Sl w A n c.W][b:Sl w B m c.K](h:Z c.Ok){k:Nat}(T:l<k)(V:k<r)(hr:r<=m):() 239 #[.agg #[(A,n,p),(B,m,q)],.agg #[l,r],k] w (aL w (c.step l r k:Int)):=by
 obtain⟨X,CP⟩:=hY;have G:=h.o.uC r;have I:=h.o.DD r;have a3:=h.o.uC k;have a4:=h.o.DD k;have C:=h.o.uC (k-1);have D:=h.o.DD (k-1);have hm:m=c.n:=b.len;have R:n=c.n+1:=a.len.trans h.o.len;have J:=h.o.n2;rw[<-hm]at R J;obtain⟨j,rfl⟩:∃j,k=j+1:=⟨k-1,Y⟩;rw[Nat.add_sub_cancel]at C D;obtain⟨b1,o1,P,S,v1⟩:=Sl.DH (c:=c) (w:=w) (A:=A) (n:=n) (l:=r) Y;obtain⟨b2,o2,E,L,v2⟩:=Sl.DH (c:=c) (w:=w) (A:=A) (n:=n) (l:=j+1) Y;obtain⟨b3,o3,F,M,v3⟩:=Sl.DH (c:=c) (w:=w) (A:=A) (n:=n) (l:=j) Y;rw[P]at E F;cases E;cases F;subst P;clear L M;have Q:IntKind.i64.wrap (((j+1:Nat):Int)-1)=((j:Nat):Int):=by rw[a7];omega
 have w1:IntKind.i64.wrap (c.w (j+1)+c.w j)=c.w (j+1)+c.w j:=by rw[a7];omega
 have w2:IntKind.i64.wrap (c.w (j+1)+c.w r)=c.w (j+1)+c.w r:=by rw[a7];omega
 have w3:IntKind.i64.wrap (c.w (j+1)+c.w j+c.w r)=c.w (j+1)+c.w j+c.w r:=by rw[a7];omega
 have u:Z (c.step l r (j+1)=c.w (j+1)+(if j=l then 0 else c.w j)+(if r=m then 0 else c.w r)):=U (by rw[Ch.step,Nat.add_sub_cancel,hm]);clear hm;by_cases y:j=l;by_cases e:r=m;have z:Z (c.step l r (j+1)=c.w (j+1)):=U (by rw[u.o,ah y,ah e];omega);have N:((j:Int) !=(l:Int))=false:=by simp;omega
 exact zRd;have z:Z (c.step l r (j+1)=c.w (j+1)+c.w r):=U (by rw[u.o,ah y,ag e];omega);have N:((j:Int) !=(l:Int))=false:=by simp;omega
 exact zRb;by_cases e:r=m;have z:Z (c.step l r (j+1)=c.w (j+1)+c.w j):=U (by rw[u.o,ag y,ah e];omega);have N:((j:Int) !=(l:Int))=true:=by rw[jc];omega
 exact zRd;have z:Z (c.step l r (j+1)=c.w (j+1)+c.w j+c.w r):=U (by rw[u.o,ag y,ag e]);have N:((j:Int) !=(l:Int))=true:=by rw[jc];omega
 exact zRb
end
variable{clock mb:Nat}{es:Array MapEntry}
section
set_option linter.unusedSimpArgs false
abbrev eg(l r:Int):Value:=.agg #[l,r]
theorem Mc(w:ab)(l r b e:Int):(Op.equal 294 (eg l r) (eg b e)).run prog w=.ok (l==b&&r==e) w:=by
 have:(Op.equal 294 (eg l r) (eg b e)).run prog w=if l=b then(if r=e then Result.ok true w else Result.ok false w)else Result.ok false w:=by simp[Op.equal,Op.maxDepth,go_sem]
 grind
def U8(em:Bool)(w:ab)(l r:Int)(d:Nat):(Instr.checkKey em (d+1+1) 294 (eg l r)).run prog w=.ok () w:=by
 simp[Instr.checkKey,go_sem];trace_state
def sr(em:Bool)(w:ab)(l r:Int):(Instr.checkKey em 10000 294 (eg l r)).run prog w=.ok () w:=U8 em w l r 9998
def DJ(j:List MapEntry):Prop:=∀e∈j,∃a b:Int,e.key=eg a b
theorem wP(l r:Int):∀(m:List MapEntry) (i:Nat),DJ m->
  (∃j e,e∈m/\e.key=eg l r/\∀w:World,(Instr.findAsking 294 (eg l r) m i).run prog w=.ok (some (j,e.val)) w)\/
  ((∀e∈m,e.key≠eg l r)/\∀w:World,(Instr.findAsking 294 (eg l r) m i).run prog w=.ok none w)
 |[],i,_=>.inr ⟨aI,λw=>by simp[Instr.findAsking]⟩
 |e::m,i,h=>by obtain⟨a,b,z⟩:=h e aI;by_cases u:l=a/\r=b;obtain⟨rfl,rfl⟩:=u;refine .inl ⟨i,e,aI,z,λw=>?_⟩;simp only[Instr.findAsking,uP,z,Mc,uI];simp;(have D:(l==a&&r==b)=false:=by simpa using u);(have E:e.key≠eg l r:=by rw[z];intro x;simp at x;exact ay);have y:∀w:World,(Instr.findAsking 294 (eg l r) (e::m) i).run prog w=(Instr.findAsking 294 (eg l r) m (i+1)).run prog w:=(by grind [Instr.findAsking,Sem.run_bind,Mc,Result.andThen_ok]);rcases wP l r m (i+1) (λx B=>h x (by simp[B]))with⟨j,x,B,C,hr⟩|⟨F,hr⟩;exact .inl ⟨j,x,by simp[B],C,λw=>(y w).trans (hr w)⟩;grind
def DK(l r:Int)(m:List MapEntry)(h:DJ m):
  (∃j e,e∈m/\e.key=eg l r/\∀w:World,(Instr.findKey 294 (eg l r) m).run prog w=.ok (some (j,e.val)) w)\/
  ((∀e∈m,e.key≠eg l r)/\∀w:World,(Instr.findKey 294 (eg l r) m).run prog w=.ok none w):=by
 cases m with
 |nil=>exact .inr ⟨aI,λw=>by simp[Instr.findKey,Instr.findNow,eu underlying294]⟩
 |cons e m=>(have:∀w:World,(Instr.findKey 294 (eg l r) (e::m)).run prog w=(Instr.findAsking 294 (eg l r) (e::m) 0).run prog w:=λw=>by obtain⟨a,b,u⟩:=h e aI;simp[Instr.findKey,Instr.findNow,Instr.sameNow,u,eu underlying294]);simp only[this];exact wP l r _ 0 h
structure afH(w:World)(mb:Nat)(es:Array MapEntry)(clock:Nat):Prop where
 ak:w.heap[mb]?=some (.map es clock)
 keys:DJ es.toList
def Pj(h:DJ es.toList)(l r:Int):
  (∃e,e∈es.toList/\e.key=eg l r/\∀w:World,w.heap[mb]?=some (.map es clock)->(Instr.lookup 290 (.map (some mb)) (eg l r) true).run prog w=.ok (.tuple #[e.val,.bool true]) w)\/
  ((∀e∈es.toList,e.key≠eg l r)/\∀w:World,w.heap[mb]?=some (.map es clock)->(Instr.lookup 290 (.map (some mb)) (eg l r) true).run prog w=.ok (.tuple #[.agg #[()],.bool false]) w):=by
 rcases DK l r es.toList h with⟨j,e,b,m,hr⟩|⟨u,hr⟩
 .exact .inl ⟨e,b,m,λw hb=>by simp[Instr.lookup,eu underlying290,pM hb,sr,hr w,go_sem]⟩
 exact .inr ⟨u,λw hb=>by simp[Instr.lookup,eu underlying290,pM hb,sr,hr w,go_sem]⟩
theorem U9{w:ab}(h:afH w mb es m)(l r:Int)(v:Value)(b:∀e∈es.toList,e.key≠eg l r):
  (Instr.mapUpdate 290 (.map (some mb)) (eg l r) v).run prog w=.ok () (ChangeMaps.setBlock w mb (.map (es.push {key:=eg l r,val:=v,born:=m}) (m+1))):=by
 rcases DK l r es.toList h.keys with⟨j,e,u,y,hr⟩|⟨b,hr⟩;grind;simp[Instr.mapUpdate,eu underlying290,pM h.ak,Ad _ h.ak,sr,hr,ChangeMaps.setBlock]
end
section
variable{g0:Nat}{bad:Nat->Prop}{nk:Nat->Nat->Prop}
def Ch.rl(c:Ch)(cap:Int)(l:Nat):Nat:=(cap-c.kept l+1).toNat
def Ch.row(c:Ch)(cap:Int)(l r:Nat):List Int:=(List.range (c.rl cap l)).map λ(m:Nat)=>c.V l r (m:Int)
def Ch.ku(c:Ch)(cap:Int)(l r j:Nat):List Int:=(List.range (c.rl cap l)).map λ(m:Nat)=>c.pv c.V l r (m:Int) j
section
variable{w:World}{bad':Nat->Prop}{nk':Nat->Nat->Prop}
def Ch.qD(h:m<c.rl cap l):(c.row cap l r)[m]?=some (c.V l r (m:Int)):=by simp[Ch.row,h]
def Md(w:ab)(c:Ch)(cap:Int)(bad:Nat->Prop)(nk:Nat->Nat->Prop)(e:MapEntry):Prop:=
 ∃l r g:Nat,l<r/\r<=c.n/\e.key=eg (l:Int) (r:Int)/\e.val=.agg #[.slice g (c.rl cap l) (c.rl cap l)]/\Own w g 3 (c.row cap l r)/\¬bad g/\¬nk l r
def Mem(w:ab)(mb:Nat)(c:Ch)(cap:Int)(bad:Nat->Prop)(nk:Nat->Nat->Prop):Prop:=
 ∃j b,w.heap[mb]?=some (.map j b)/\∀e∈j.toList,Md w c cap bad nk e
def Md.same{e:MapEntry}(h:Md w c cap bad nk e)(u:∀b,b<w.1.size->¬bad b->w'.heap[b]?=w.heap[b]?):Md w' c cap bad nk e:=by
 obtain⟨l,r,g,y,z,B,C,j,m,D⟩:=h;exact⟨l,r,g,y,z,B,C,(u g j.lt m).trans j,m,D⟩
def Mem.same(h:Mem w mb c cap bad nk)(hm:w'.heap[mb]?=w.heap[mb]?)(j:∀b,b<w.1.size->¬bad b->w'.heap[b]?=w.heap[b]?):Mem w' mb c cap bad nk:=by
 obtain⟨m,cl,u,y⟩:=h;exact⟨m,cl,hm.trans u,λe z=>(y e z).same j⟩
theorem Mem.lt(h:Mem w mb c cap bad nk):mb<w:=by
 obtain⟨b,cl,e,_⟩:=h;grind
def Mem.at(h:Mem w mb c cap bad nk)[l:aM w w']:Mem w' mb c cap bad nk:=h.same (l.st.block _ h.lt) λb hb _=>l.st.block b hb
def Mem.less(h:Mem w mb c cap bad nk)(hb:∀g,bad' g->bad g)(b:∀l r,nk' l r->nk l r):Mem w mb c cap bad' nk':=by
 obtain⟨j,cl,m,u⟩:=h;refine⟨j,cl,m,λe y=>?_⟩;obtain⟨l,r,g,z,B,C,D,E,F,G⟩:=u e y;exact⟨l,r,g,z,B,C,D,E,λx=>F (hb _ x),λx=>G (b _ _ x)⟩
def Mem.fresh(h:Mem w mb c cap bad nk)(hg:w<=g0):Mem w mb c cap (λg=>bad g\/g=g0) nk:=by
 obtain⟨j,cl,m,u⟩:=h;refine⟨j,cl,m,λe y=>?_⟩;obtain⟨l,r,g,z,B,C,D,b,E,F⟩:=u e y;have:=b.lt;exact⟨l,r,g,z,B,C,D,b,λx=>x.elim E (λx=>by omega),F⟩
theorem Mem.aag(b:∀e∈es.toList,Md w c cap bad nk e):DJ es.toList:=λe j=>by
 obtain⟨l,r,g,m,u,y,_⟩:=b e j;grind
theorem Mem.look(h:Mem w mb c cap bad nk)(l r:Nat):
  (∃g,(∀w':World,w'.heap[mb]?=w.heap[mb]?->(Instr.lookup 290 (.map (some mb)) (eg (l:Int) (r:Int)) true).run prog w'=.ok (.tuple #[.agg #[.slice (some ⟨g,0,none⟩) (c.rl cap l) (c.rl cap l)],.bool true]) w')/\Own w g 3 (c.row cap l r)/\¬bad g)\/
  ((∀w':World,w'.heap[mb]?=w.heap[mb]?->(Instr.lookup 290 (.map (some mb)) (eg (l:Int) (r:Int)) true).run prog w'=.ok (.tuple #[.agg #[()],.bool false]) w')/\Mem w mb c cap bad (λa b=>nk a b\/a=l/\b=r)):=by
 obtain⟨J,cl,K,j⟩:=h;rcases Pj (mb:=mb) (clock:=cl) (Mem.aag j) (l:Int) (r:Int)with⟨e,m,L,hr⟩|⟨M,hr⟩;obtain⟨u,z,g,B,C,D,E,F,G,I⟩:=j e m;grind;refine .inr ⟨ay,J,cl,K,λe m=>?_⟩;obtain⟨u,z,g,B,C,D,E,F,G,I⟩:=j e m;refine⟨u,z,g,B,C,D,E,F,G,λx=>x.elim I (λ⟨x,y⟩=>?_)⟩;grind
theorem Mem.put(h:Mem w mb c cap bad nk){l r:Nat}(R:l<r)(hr:r<=c.n)(S:nk l r)(F:Own w g0 3 (c.row cap l r))(hb:∀g,bad' g->bad g)(hg:¬bad' g0)(T:∀a b,nk' a b->nk a b)(z:¬nk' l r):
  ∃w',(Instr.mapUpdate 290 (.map (some mb)) (eg (l:Int) (r:Int)) (.agg #[.slice g0 (c.rl cap l) (c.rl cap l)])).run prog w=.ok () w'/\Mem w' mb c cap bad' nk'/\
   (∀b,b≠mb->w'.heap[b]?=w.heap[b]?)/\w'.1.size=w.1.size/\(mb<w)/\(∀B,B<=mb->Below B w w'):=by
 have C:=h.lt;obtain⟨G,cl,I,D⟩:=h;have y:∀e∈G.toList,e.key≠eg (l:Int) (r:Int):=λe u V=>by obtain⟨J,K,g,L,M,N,O,E,P,Q⟩:=D e u;grind
 have j:∀b,b≠mb->(ChangeMaps.setBlock w mb (.map (G.push {key:=eg (l:Int) (r:Int),val:=.agg #[.slice g0 (c.rl cap l) (c.rl cap l)],born:=cl}) (cl+1))).heap[b]?=w.heap[b]?:=(by grind [ChangeMaps.heap_setBlock_other]);have m:∀{g:Nat} {zs:au},Own w g 3 zs->g≠mb:=(by grind [Own]);refine⟨_,U9 ⟨I,Mem.aag D⟩ _ _ _ y,⟨_,_,zY I _,λe u=>?_⟩,j,by simp[ChangeMaps.setBlock],C,λB X=>⟨rfl,rfl,rfl,by simp[ChangeMaps.setBlock],λk S=>j k Y⟩⟩;rw[Array.toList_push,cu,de]at u;rcases u with u|rfl;obtain⟨J,K,g,L,M,N,O,E,P,Q⟩:=D e u;exact⟨J,K,g,L,M,N,O,(j g (m E)).trans E,λx=>P (hb _ x),λx=>Q (T _ _ x)⟩;exact⟨l,r,g0,R,hr,rfl,rfl,(j g0 (m F)).trans F,hg,z⟩
@[grind cases]class Nx(mb:outParam Nat)(w':World)(w:outParam World):Prop where
 st:Below mb w w'
 keep:∀b,b<w.1.size->b≠mb->w'.heap[b]?=w.heap[b]?
 map:∃es clock,w.heap[mb]?=some (.map es clock)
def zRk(h:Γ:=by grind [aA]):=h
theorem Nx.ne{cs:dw}(h:Nx mb w' w)(b:aA w g T cs):g≠mb:=zRk
instance(priority:=low) Bx.nx[p:Nx mb w' w]{cs:dw}[h:Bx w g T cs]:Bx w' g T cs:=⟨(p.keep g h.ak.lt (p.ne h.ak)).trans h.ak⟩
theorem Nx.trans{b:ab}(h:Nx mb w' w)(k:Nx mb b w'):Nx mb b w:=
 ⟨h.st.trans k.st,ay,h.map⟩
theorem Nx.of[p:aM w w'](hm:Mem w mb c cap bad nk):Nx mb w' w:=by
 have e:=hm.lt;obtain⟨j,cl,m,_⟩:=hm;exact⟨p.st.mono (eW e),λb hb _=>p.st.block b hb,j,cl,m⟩
end
end
variable{M:Nat}
def Ch.lZ(c:Ch)(cap:Int)(l r j M:Nat):List Int:=(List.range (c.rl cap l)).map λ(i:Nat)=>if i<M then c.pv c.V l r (i:Int) (j+1)else c.pv c.V l r (i:Int) j
def Ch.yj:(c.lZ cap l r j M).length=c.rl cap l:=by simp[Ch.lZ]
def Ch.aah{m:Int}(h:m<c.nd l r (j+1)):c.pv c.V l r m (j+1)=c.pv c.V l r m j:=by
 rw[Ch.pv,ag Y]
def Ch.aai{m:Int}(h:c.nd l r (j+1)<=m):c.pv c.V l r m (j+1)=min (c.pv c.V l r m j) (c.cs l (j+1)+c.V (l+j+1) r (m-c.w (l+j+1))+c.V l (l+j+1) m):=by
 rw[Ch.pv,ah h]
def Ch.yX(h:(M:Int)<=c.nd l r (j+1)):c.lZ cap l r j M=c.ku cap l r j:=by
 unfold Ch.lZ Ch.ku;refine iG λi _=>?_;split;exact Ch.aah Y;rfl
def zRf(h:Γ:=by refine iG λi hi=>?_;rw[ah (by have:=pF.1 hi;omega)]):=h
def Ch.Gp(h:c.rl cap l<=M):c.lZ cap l r j M=c.ku cap l r (j+1):=by
 unfold Ch.lZ Ch.ku;exact zRf
def Ch.Me(h:M<c.rl cap l):(c.lZ cap l r j M)[M]?=some (c.pv c.V l r (M:Int) j):=by simp[Ch.lZ,h]
def zRa(h:Γ:=by by_cases b:i<M;rw[ah b,ah Y];rw[ag b,ag Y]):=h
def Ch.Va(h:M<c.rl cap l):(c.lZ cap l r j M).set M (c.pv c.V l r (M:Int) (j+1))=c.lZ cap l r j (M+1):=by
 apply eo;intro i;rw[iI,Ch.yj];by_cases e:M=i;subst e;rw[ah rfl,ah h];simp[Ch.lZ,h];rw[ag e];by_cases hi:i<c.rl cap l;simp only[Ch.lZ,bo,il hi,pN];congr 1;exact zRa;rw[ej (by rw[Ch.yj];omega),ej (by rw[Ch.yj];omega)]
def Ch.Pk(h:l+1<r):c.ku cap l r (r-l-1)=c.row cap l r:=by
 unfold Ch.ku Ch.row;refine iG λi _=>?_;rw[Ch.oq h]
def Ch.Pl:c.ku cap l r 0=List.replicate (c.rl cap l) 1152921504606846976:=by
 rw[Ch.ku];apply eo;intro i;by_cases hi:i<c.rl cap l;simp[hi,Ch.pv];rw[ej ch,ej ch]
def Ch.dC(c:Ch)(cap:Int)(l M:Nat):List Int:=(List.range (c.rl cap l)).map λ(i:Nat)=>if i<M then c.V l (l+1) (i:Int)else 1152921504606846976
def Ch.yk:(c.dC cap l M).length=c.rl cap l:=by simp[Ch.dC]
def Ch.Mf(h:(M:Int)<=c.single l (l+1)):c.dC cap l M=List.replicate (c.rl cap l) 1152921504606846976:=by
 rw[Ch.dC];apply eo;intro i;by_cases hi:i<c.rl cap l
 .simp only[bo,il hi,pN,kw,ah hi];congr 1;split;rw[Ch.sk,ag Y];rfl
 rw[ej ch,ej ch]
def Ch.Vb(h:c.rl cap l<=M):c.dC cap l M=c.row cap l (l+1):=by
 unfold Ch.dC Ch.row;exact zRf
def Ch.Vc(h:M<c.rl cap l)(hs:c.single l (l+1)<=(M:Int)):(c.dC cap l M).set M (c.own (l+1))=c.dC cap l (M+1):=by
 apply eo;intro i;rw[iI,Ch.yk];by_cases e:M=i;subst e;rw[ah rfl,ah h];simp only[Ch.dC,bo,il h,pN];rw[ah Y,Ch.sk,ah hs];rw[ag e];by_cases hi:i<c.rl cap l;simp only[Ch.dC,bo,il hi,pN];congr 1;exact zRa;rw[ej (by rw[Ch.yk];omega),ej (by rw[Ch.yk];omega)]
section
variable{W w0:World}{g0 sb:Nat}{bad:Nat->Prop}{nk:Nat->Nat->Prop}
section
variable{w:World}{n p:Nat}
def wQ(w0 w:ab)(mb:Nat)(c:Ch)(cap:Int)(bad:Nat->Prop)(nk:Nat->Nat->Prop)(l r:Nat)(e:Ending)(w':ab):Prop:=
 ∃g,e=.returned (.agg #[.slice (some ⟨g,0,none⟩) (c.rl cap l) (c.rl cap l)])/\Bx w' g 3 (ints (c.row cap l r))/\¬bad g/\Z (Mem w' mb c cap bad nk)/\Nx mb w' w/\aj w' w0
abbrev fM(A:Option Addr)(n p:Nat)(B:Option Addr)(m q:Nat)(cap:Int)(mb:Nat):Array Value:= #[(A,n,p),(B,m,q),m,cap,.map (some mb)]
def su(w0:ab)(sb:Nat)(A:bz)(n p:Nat)(B:bz)(m q:Nat)(c:Ch)(cap:Int)(mb l r:Nat):Prop:=
 ∀(w:ab) (bad:Nat->Prop) (nk:Nat->Nat->Prop),aj w w0->Bx w sb 292 (fM A n p B m q cap mb)->Mem w mb c cap bad nk->(∀g,bad g->g<w.1.size)->(∀a b,nk a b->r-l<b-a)->
  () 199 #[.pointer sb,.agg #[l,r]] w (wQ w0 w mb c cap bad nk l r)
def su.at(h:su w0 sb A n p B m q c cap mb l r)(p1:aj w w0)[e:Bx w sb 292 (fM A n p B m q cap mb)](hm:Mem w mb c cap bad nk)(j:∀g,bad g->g<w.1.size)(u:∀a b,nk a b->r-l<b-a):
  () 199 #[.pointer sb,.agg #[l,r]] w (wQ w0 w mb c cap bad nk l r):=h w bad nk p1 e hm j u
structure SI(w0 W w:World)(mb g0:Nat)(c:Ch)(cap:Int)(bad:Nat->Prop)(nk:Nat->Nat->Prop):Prop where
 mem:Mem w mb c cap bad nk
 keep:∀b,b<W.1.size->b≠mb->b≠g0->w.heap[b]?=W.heap[b]?
 size:W.1.size<=w.1.size
def SI.set(h:SI w0 W w mb g0 c cap bad nk)(hg:bad g0)(hm:mb≠g0)(i:Nat)(v:Value):SI w0 W (w.setCell (g0,i) v) mb g0 c cap bad nk:=
 ⟨h.mem.same (bb w ⟨g0,i,none⟩ v mb hm) (λb _ hb=>bb w ⟨g0,i,none⟩ v b (λe=>hb (by simp only at e;rw[e];exact hg))),
  λb hb l j=>(bb w ⟨g0,i,none⟩ v b j).trans (h.keep b hb l j),by simpa using h.size⟩
def SI.at{W:ab}(h:SI w0 W w mb g0 c cap bad nk)[l:aM w w']:SI w0 W w' mb g0 c cap bad nk:=
 ⟨h.mem.at,λb hb e j=>(l.st.block b (bN hb h.size)).trans (h.keep b hb e j),aQ h.size l.st.size⟩
def SI.nx(hm:Mem w mb c cap bad nk)[p:Nx mb w W]:SI w0 W w mb g0 c cap bad nk:=⟨hm,λb hb e _=>p.keep b hb e,p.st.size⟩
def qE{w:ab}(x:bz)(a b:Nat):(Instr.field 296 (.agg #[(x,a,b)]) 0).run prog w=.ok (x,a,b) w:=by
 simp[Instr.field,asAgg,go_sem,eu underlying296]
def Vd{k:Nat}(u:Z c.Ok)(ih:Z (∀l' r',l'<r'->r'-l'<r-l->r'<=c.n->su w0 sb A n p B m q c cap mb l' r'))(hk:Z (k=l+j+1))(hl:l<k)(Q:k<r)(hr:r<=c.n)
  [a:Sl w0 A n c.W] [hp:aj w w0] [hbx:Bx w sb 292 (fM A n p B m q cap mb)] (hm:Z (Mem w mb c cap bad nk)) (F:Z (∀g,bad g->g<w.1.size)) (R:Z (∀a b,nk a b->r-l<=b-a))
  [ho:Bx w g0 3 (ints (c.ku cap l r j))] (G:Z (bad g0)) {N:Nat} {cost:Int} (y:Z (c.nd l r (j+1)=(N:Int))) (C:Z (c.cs l (j+1)=cost)) (hN:N<c.rl cap l) (Eu:cap<=4096) (S:w0<=g0):
  () 240 #[.pointer sb,.agg #[l,r],k,N,cost,.slice g0 (c.rl cap l) (c.rl cap l)] w
   (λe w'=>e=.returned (.tuple #[])/\SI w0 w w' mb g0 c cap bad nk/\Bx w' g0 3 (ints (c.ku cap l r (j+1)))/\aj w' w0):=by
 obtain⟨CB,CP⟩:=hY;have FR:=@qE;go_in;go_upto_region 1 with fail;refine aU w0 (λT=>Bx T w.1.size 294 #[l,r]) ap am (λux _=>?_);refine br 0 ?_;refine br 1 ?_;refine br 2 ?_;refine br 3 ?_;refine br 4 ?_;refine br 7 ?_;refine br 8 ?_;refine br 9 ?_;refine br 10 ?_;refine br 11 ?_;refine aJ 5 λK hK=>?_;go_simp;refine((ih.o k r Q Y hr).at (aC) hm.o.at (λg h=>bN (F.o g h) ai) (λa b h=>by have:=R.o a b h;omega)).mono ?_;rintro e ux ⟨gR,rfl,kR,nbR,mR,I,pR⟩;dsimp only;refine aE hK ?_ ⟨aG w0 _,am⟩;refine br 6 ?_;refine aJ 12 λK hK=>?_;obtain⟨u1,rfl⟩:=lg ux;have vp:(World.heap w).size<=u1:=aQ ai I.st.size;go_simp;refine((ih.o l k hl Y Y).at pR mR.o (λg h=>bN (F.o g h) vp) (λa b h=>by have:=R.o a b h;omega)).mono ?_;rintro e ux ⟨gL,rfl,kL,nbL,mL,X,pL⟩;dsimp only;refine aE hK ?_ ⟨aG w0 _,am⟩;refine br 13 ?_;refine br 14 ?_;refine br 15 ?_;refine a8 ?_;go_upto_region 3 with fail;obtain⟨v,rfl⟩:=lg ux;have J:Nx mb v w:=((Nx.of hm).trans I).trans X;have HSI:Z (SI w0 w v mb g0 c cap bad nk):=U (SI.nx (W:=w) (p:=J) mL.o);have kg:Bx v g0 3 (ints (c.lZ cap l r j N)):=by rw[Ch.yX (by rw[y.o];exact eb _)];exact am
 have kS:Bx v sb 292 (fM A n p B m q cap mb):=am;have kR2:Bx v gR 3 (ints (c.row cap k r)):=am;have hgm:mb≠g0:=λe=>(J.ne ho.ak) e.symm;clear J I X mR mL hm hbx ho kR pR hp;go_loopw [14] (λi wr=>∃M:Nat,N<=M/\M<=c.rl cap l/\i=.int .i64 M/\Z (SI w0 w wr mb g0 c cap bad nk)/\Bx wr g0 3 (ints (c.lZ cap l r j M))/\Bx wr sb 292 (fM A n p B m q cap mb)/\Bx wr gR 3 (ints (c.row cap k r))/\Bx wr gL 3 (ints (c.row cap l k))/\aj wr w0) (λi _=>c.rl cap l-(intOf i).toNat);exact⟨N,al _,eW hN,rfl,HSI,kg,kS,kR2,kL,pL⟩;obtain⟨M,hNM,hM,rfl,HS,kg,kS,kR,kL,pr⟩:=hrel;by_cases E:M<c.rl cap l
 .have oP:k<n:=by have:=a.len;have:=u.o.len;omega
  obtain⟨b1,o1,rfl,mM,v1⟩:=Sl.DH (c:=c) (w:=w0) (A:=A) (n:=n) (l:=k) oP;have hcn:=u.o.n2;have Bf:=u.o.uC k;(have E9:(M:Int)<=cap-c.kept l:=by unfold Ch.rl at E;omega);(have hwM:c.w k<=(M:Int):=by have:=u.o.Z9 (l:=l) (r:=r) (j:=j) (m:=(M:Int)) (by rw[y.o];omega);rwa[<-hk.o]at this);(have tR:c.kept k=c.w k:=by unfold Ch.kept;rw[ag Y]);have zf:=u.o.k9 l;obtain⟨D,hD⟩:∃D:Nat,(M:Int)-c.w k=(D:Int):=⟨((M:Int)-c.w k).toNat,Y⟩;(have TO:D<c.rl cap k:=by unfold Ch.rl;rw[tR];omega);(have e1:(ints (c.lZ cap l r j M))[M]?=some (.int .i64 (c.pv c.V l r (M:Int) j)):=by rw[e4,Ch.Me E];rfl);(have e2:(ints (c.row cap k r))[D]?=some (.int .i64 (c.V k r (D:Int))):=by rw[e4,Ch.qD TO];rfl);(have e3:(ints (c.row cap l k))[M]?=some (.int .i64 (c.V l k (M:Int))):=by rw[e4,Ch.qD E];rfl);have hM4:M<=4096:=Y;(have hs:IntKind.i64.wrap (D:Int)=(D:Int):=by rw[a7];omega);have oG:Own wr g0 3 (c.lZ cap l r j M):=kg.ak;have nS:sb≠g0:=λe=>oG.aF kS.ak ao e.symm;have nR:gR≠g0:=λe=>nbR (by rwa[e]);have nL:gL≠g0:=λe=>nbL (by rwa[e]);have m1:=u.o.mod (l:=k) (r:=r) (m:=(D:Int)) Q hr;have m2:=u.o.mod (l:=l) (r:=k) (m:=(M:Int)) hl Y;have J6:=m1.lo;have m1h:=m1.hi Y;have m2l:=m2.lo;have m2h:=m2.hi Y;have mG:=u.o.Gm l (j+1);have y2:=u.o.L8 l (j+1);rw[C.o]at mG y2;have acH:((j+1:Nat):Int)<=64:=by have:=hk.o;omega
  obtain⟨x1,L⟩:=lh (c.V k r (D:Int));obtain⟨x2,O⟩:=lh (c.V l k (M:Int));obtain⟨x3,P⟩:=lh (c.pv c.V l r (M:Int) j);have HP:Z (c.pv c.V l r (M:Int) (j+1)=min x3 (cost+x1+x2)):=U (by
   rw[Ch.aai (by rw[y.o];omega),C.o,<-hk.o,hD,L,O,P])
  have HAT:=U (Ch.Me (c:=c) (cap:=cap) (l:=l) (r:=r) (j:=j) E);rw[P]at e1 HAT;rw[L]at e2 J6 m1h;rw[O]at e3 m2l m2h;(have s1:IntKind.i64.wrap (cost+x1)=cost+x1:=by rw[a7];omega);(have s2:IntKind.i64.wrap (cost+x1+x2)=cost+x1+x2:=by rw[a7];omega);have OM:w0<=g0:=S;clear m1 m2 J6 m1h m2l m2h mG y2 acH L O P zf tR hwM E9 hcn Bf;go_wp2_with fail;refine aU w0 (λT=>Bx T sb 292 (fM (some ⟨b1,o1,none⟩) n p B m q cap mb)/\Bx T gR 3 (ints (c.row cap k r))/\Bx T gL 3 (ints (c.row cap l k))) ap ⟨am,am,am⟩ (λz _=>?_);refine a1 0 ?_;refine a1 1 ?_;refine a1 2 ?_;refine a1 3 ?_;refine a1 4 ?_;refine a1 6 ?_;refine a1 7 ?_;refine a1 8 ?_;refine a1 9 ?_;refine a1 10 ?_;refine a1 11 ?_;refine a1 12 ?_;refine a1 13 ?_;refine a1 14 ?_;refine a1 15 ?_;refine a1 16 ?_;refine a1 17 ?_;refine a1 18 ?_;refine a1 19 ?_;refine a1 20 ?_;refine a1 21 ?_;refine a1 22 ?_;refine a1 23 ?_;refine a1 24 ?_;refine a1 25 ?_;refine aJ 5 λK hK=>?_;go_simp;refine aE hK ?_ ⟨aG w0 _,⟨am,am,am⟩⟩;refine a1 26 ?_;refine a1 27 ?_;refine aJ 28 λK hK=>?_;have oD:=((oG).at (w':=z)).cell HAT;have o6:=((oG).at (w':=z)).frozen M;go_simp;refine aE hK ?_ ⟨⟨(aO w0 z).setCell (p:=⟨g0,M,none⟩) OM _⟩,⟨⟨(Bx.ak (w:=z)).aV nS _⟩,⟨(Bx.ak (w:=z)).aV nR _⟩,⟨(Bx.ak (w:=z)).aV nL _⟩⟩⟩;clear hK K oD o6;refine a8 ?_;go_wp2_with fail;go_roundw;exact⟨M+1,Y,Y,by go_num,U ((HS.o.at (w':=z)).set G hgm M _),⟨by rw[<-Ch.Va E,HP.o];exact(oG.at (w':=z)).av M _⟩,⟨(Bx.ak (w:=z)).aV nS _⟩,⟨(Bx.ak (w:=z)).aV nR _⟩,⟨(Bx.ak (w:=z)).aV nL _⟩,⟨(aO w0 z).setCell (p:=⟨g0,M,none⟩) OM _⟩⟩;exact zRe
 have hMe:M=c.rl cap l:=Y;have kg2:Bx wr g0 3 (ints (c.ku cap l r (j+1))):=by rw[<-Ch.Gp (M:=M) Y];exact kg
 go_wp2_with fail;exact⟨rfl,.tuple #[],by simp[results,results240,go_sem],rfl,HS,kg2,aC⟩
end
end
section
variable{P:Program}{Q:Exit->Act->World->Prop}{a:Act}{w0:World}{T':TypeId}{kx:Array Value}{sb:Nat}
def uD{C:Code}{cs:dw}(h:∀u,aj u X->Bx u X.1.size T cs->Bx u (X.1.size+1) T' kx->C.wp P Q a u):C.wp P Q a ((X.alloc (.cells cs T)).alloc (.cells kx T')):=
 h _ (aC) am am
def Pm(n:Nat)(l:n<=1000000)(W:ab):(Instr.makeSlice 24 (n:Int) (n:Int)).run prog W=.ok (W,n,n) (W.alloc (.cells (ints (List.replicate n 0)) 3)):=by
 have b:(prog.info? 3).map (λi=>(i.zero,i.size,i.bytes))=some (some (.int .i64 0),1,8):=ap;obtain⟨i,hi,e⟩:=bJ.1 b;simp only[dS]at e;obtain⟨j,hs,hb⟩:=e;have:=run_make (P:=prog) W 24 3 i _ underlying24 hi j .i64 .i64 n n Y (eb _) (by rw[hb];omega) Y;rw[this,hs,<-jh];simp[Value.cells]
def kb(n M:Nat)(v u:Int):List Int:=(List.range n).map λi=>if i<M then v else u
def nt{n:Nat}{v:Int}:(kb n M v z).length=n:=by simp[kb]
def zRj(h:Γ:=by rw[nt];omega):=h
def Mg{n:Nat}{v:Int}:kb n 0 v z=List.replicate n z:=by
 apply eo;intro i;by_cases hi:i<n;simp[kb,hi];rw[ej zRj,ej ch]
def Mh{n:Nat}{v u:Int}(h:n<=M):kb n M v u=List.replicate n v:=by
 apply eo;intro i;by_cases hi:i<n;simp[kb,hi,show i<M from Y];rw[ej zRj,ej ch]
def s7{n:Nat}{v:Int}(h:i<n):(kb n M v z)[i]?=some (if i<M then v else z):=by simp[kb,h]
def Pn{n:Nat}{v u:Int}(h:M<n):(kb n M v u).set M v=kb n (M+1) v u:=by
 apply eo;intro i;rw[iI,nt];by_cases e:M=i;subst e;rw[ah rfl,ah h,s7 h,ah Y];rw[ag e];by_cases hi:i<n;rw[s7 hi,s7 hi];exact zRa;rw[ej zRj,ej zRj]
section
variable{w:World}{n p:Nat}
def abT(C:m<=64)(I:0<r)[b:Sl w0 B m c.K][aj w w0][Bx w sb 292 (fM A n p B m q cap mb)]:
  () 238 #[.pointer sb,.agg #[l,r]] w (aL w (c.own r:Int)):=by
 obtain⟨J,L⟩:=hY;have hm:m=c.n:=b.len;by_cases e:r=m
 .have u:Z (c.own r=c.k (r-1)):=U (by rw[Ch.own,ah Y]);obtain⟨j,y⟩:=lh (r-1);rw[y]at u;obtain⟨M,o1,rfl,D,N⟩:=Sl.aaf (c:=c) (w:=w0) (A:=B) (n:=m) (l:=j) Y;(have z:IntKind.i64.wrap ((r:Int)-1)=((j:Nat):Int):=by rw[a7];omega);(have E:((r:Int)==(m:Int))=true:=by simp;omega);have F:j<m:=Y;clear y;clear e hm;go_in;go_wp2_with fail;refine aq ap (λG _=>?_);refine qL [0,1,2,3,4,5,6] ?_;refine a8 ?_;go_wp2_with fail;refine aq ap (λO _=>?_);refine qL [0,1,2,3,4,5,6,7,8,9,10] ?_;exact zR6
 have u:Z (c.own r=0):=U (by rw[Ch.own,ag Y]);have E:((r:Int)==(m:Int))=false:=by simp;omega
 clear e hm;go_in;go_wp2_with fail;refine aq ap (λG _=>?_);refine qL [0,1,2,3,4,5,6] ?_;exact zR6
end
end
section
variable{w0:World}{sb:Nat}{bad:Nat->Prop}{nk:Nat->Nat->Prop}{P:Program}{Q:Exit->Act->World->Prop}{a:Act}
section
variable{w:World}{n p:Nat}
def zRl(h:Γ:=by simp[results,results199,go_sem,r0]):=h
def DL(hp:aj w w0)[Bx w sb 292 (fM A n p B m q cap mb)](hm:Z (Mem w mb c cap bad nk))
  (D:Z (∀w':World,w'.heap[mb]?=w.heap[mb]?->(Instr.lookup 290 (.map (some mb)) (eg (l:Int) (r:Int)) true).run prog w'=.ok (.tuple #[.agg #[.slice g (c.rl cap l) (c.rl cap l)],.bool true]) w')) (J:Bx w g 3 (ints (c.row cap l r))) (hg:¬bad g):
  () 199 #[.pointer sb,.agg #[l,r]] w (wQ w0 w mb c cap bad nk l r):=by
 have L:=@az;have M:=@aP;have cA:=hm.o.lt;have E:∀{v:ab} [aM w v],(Instr.lookup 290 (.map (some mb)) (eg (l:Int) (r:Int)) true).run prog v=.ok (.tuple #[.agg #[.slice g (c.rl cap l) (c.rl cap l)],.bool true]) v:=λ{v} [x:aM w v]=>D.o v (x.st.block _ cA);go_in;go_upto_region 1 with fail;refine uD (λj _ _ _=>?_);refine ax j ap (λu _=>?_);refine qL [0,1,2,3,4,5,6,7,8] ?_;refine aJ 9 λK hK=>?_;obtain⟨z,rfl⟩:=lg u;go_simp;refine aE hK<|bc (λu _ _=>?_);refine aJ 10 λK hK=>?_;go_simp;obtain⟨e,b⟩:=lg (u.setCell (z.1.size,0) (.slice g (c.rl cap l) (c.rl cap l)));rw[<-b];have y:Below (World.heap j).size j e:=by rw[b];exact(aO j u).setCell (p:=⟨z.1.size,0,none⟩) (ai) _
 have F:Bx e (z.1.size) _ #[.slice g (c.rl cap l) (c.rl cap l)]:=⟨by rw[b];exact aA.av (Bx.ak (w:=u) (g:=z.1.size)) 0 _⟩;have G:aj e j:=⟨y⟩;refine aE hK ?_ ⟨y⟩;clear hK K b;refine eE 11 ?_;refine a8 ?_;go_wp2_with fail;have I:aA (e.setCell (w.1.size+1,0) (.slice g (c.rl cap l) (c.rl cap l))) (w.1.size+1) _ _:=aA.av (Bx.ak (w:=e) (g:=w.1.size+1)) 0 (.slice g (c.rl cap l) (c.rl cap l));have r0:=I.cell 0;refine aZ (v:=.agg #[.slice g (c.rl cap l) (c.rl cap l)]) zRl rfl ?_;have C:Below w.1.size w (e.setCell (w.1.size+1,0) (.slice g (c.rl cap l) (c.rl cap l))):=(aO w e).setCell (p:=⟨w.1.size+1,0,none⟩) (db _) _;obtain⟨v,hv⟩:=lg (e.setCell (w.1.size+1,0) (.slice g (c.rl cap l) (c.rl cap l)));rw[<-hv]at C⊢;have:aj v w:=⟨C⟩;exact⟨g,rfl,am,hg,U hm.o.at,Nx.of hm,aC⟩
def Ch.Ve(h:M<c.rl cap l):(c.dC cap l M)[M]?=some 1152921504606846976:=by simp[Ch.dC,h]
def SI.trans{W x u:ab}{e:Nat}(h:SI w0 W x mb e c cap bad nk)(k:SI w0 x u mb e c cap bad nk):SI w0 W u mb e c cap bad nk:=
 ⟨k.mem,λb hb j l=>(k.keep b (bN hb h.size) j l).trans (h.keep b hb j l),aQ h.size k.size⟩
def Mem.aF{cs:dw}(h:Mem w mb c cap bad nk)(b:aA w g T cs):g≠mb:=λe=>by
 subst e;obtain⟨l,cl,j,_⟩:=h;unfold aA at b;rw[j]at b;cases b
def qF{C:Code}{cs:dw}(h:∀u,aj u X->Bx u X.1.size T cs->C.wp P Q a u):C.wp P Q a (X.alloc (.cells cs T)):=
 h _ (aC) am
def zR0(h:Γ:=by go_upto_region 24 with fail;refine qF (λv3 _ _=>?_);have hb9:(World.heap w).size+1<D:=(Bx.ak (w:=D) (g:=w.1.size+1)).lt;refine aU w0 (λw9=>Bx w9 sb 292 (fM A n p B m q cap mb)/\Bx w9 w.1.size 294 #[l,r]/\Bx w9 (World.heap wr).size 296 #[.slice D.1.size N N]) ap ⟨am,am,am⟩ (λG _=>?_);refine a1 0 ?_;refine a1 1 ?_;refine a1 2 ?_;refine a1 3 ?_;refine a1 4 ?_;refine a1 5 ?_;refine aJ 6 λK hK=>?_;obtain⟨E,HP,Ed,I,Pp,aaj,w8⟩:=Mem.put (t6.o.at (w':=G)) (l:=l) (r:=r) (g0:=D.1.size) hl hr (.inr ⟨rfl,rfl⟩) (Bx.ak (w:=G) (g:=D.1.size)) (bad':=λg=>bad g\/g=w.1.size+1) (λg h=>.inl h) (λh=>h.elim (λh=>absurd (Q.o _ h) Y) (λh=>by omega)) (nk':=nk) (λa b h=>.inl h) (λh=>absurd (hnk.o _ _ h) (pJ _));have X:∀{g:Nat} {T:TypeId} {cs:dw},aA G g T cs->g≠mb:=λb=>(t6.o.at (w':=G)).aF b;have kS5:Bx E sb 292 (fM A n p B m q cap mb):=⟨(I _ (X (Bx.ak (w:=G)))).trans (Bx.ak (w:=G))⟩;have kP5:Bx E w.1.size 294 #[l,r]:=⟨(I _ (X (Bx.ak (w:=G)))).trans (Bx.ak (w:=G))⟩;have k45:Bx E (w.1.size+1) 296 #[()]:=⟨(I _ (X (Bx.ak (w:=G)))).trans (Bx.ak (w:=G))⟩;have kT5:Bx E (World.heap wr).size 296 #[.slice D.1.size N N]:=⟨(I _ (X (Bx.ak (w:=G)))).trans (Bx.ak (w:=G))⟩;have kG5:Bx E D.1.size 3 (ints (c.row cap l r)):=⟨(I _ (X (Bx.ak (w:=G)))).trans (Bx.ak (w:=G))⟩;have p5:aj E w0:=⟨(aO w0 G).trans (w8 _ Gq)⟩;have qV:Z (∀b,b<w.1.size->b≠mb->E.heap[b]?=w.heap[b]?):=λb J h2=>(I b h2).trans (((aO wr G).block b (bN J LP)).trans (rk.o b J h2));have HZ5:Z ((World.heap w).size<=E):=U (by rw[Pp];exact aQ LP.o ai);have rp:=U Ed;rw[HN.o]at HP;clear I Pp aaj w8 Ed X;go_simp;refine aE hK ?_ ⟨p5,kS5,kP5,kT5⟩;clear hK K HP;refine a8 ?_;go_wp2_with fail;have k6:aA (E.setCell (w.1.size+1,0) (.slice D.1.size N N)) (w.1.size+1) _ _:=aA.av (Bx.ak (w:=E) (g:=w.1.size+1)) 0 (.slice D.1.size N N);have r0:=k6.cell 0;refine aZ (v:=.agg #[.slice D.1.size N N]) zRl rfl ?_;have L:∀b,b≠w.1.size+1->(E.setCell (w.1.size+1,0) (.slice D.1.size N N)).heap[b]?=E.heap[b]?:=λb hb=>bb _ ⟨w.1.size+1,0,none⟩ _ b hb;have p6:Below w0.1.size w0 (E.setCell (w.1.size+1,0) (.slice D.1.size N N)):=(aO w0 E).setCell (p:=⟨w.1.size+1,0,none⟩) (show w0<=w.1.size+1 from Nat.le_succ_of_le ai) _;have z6:(E.setCell (w.1.size+1,0) (.slice D.1.size N N)).1.size=E.1.size:=aI;obtain⟨v6,M9⟩:=lg (E.setCell (w.1.size+1,0) (.slice D.1.size N N));rw[<-M9]at p6 L z6⊢;have afK:=hm.o.lt;have K6:∀b,b<w.1.size->b≠mb->v6.heap[b]?=w.heap[b]?:=λb J h2=>(L b Y).trans (qV.o b J h2);have B0:Below w0.1.size w0 w:=aO w0 w;exact⟨D.1.size,by rw[HN.o],⟨(L _ Y).trans (Bx.ak (w:=E))⟩,λh=>absurd (Q.o _ h) Y,U ((rp.o.same (L mb Y) (λb _ hb=>L b (λe=>hb (.inr e)))).less (λg h=>.inl h) (λ_ _ h=>h)),⟨⟨p6.os.trans B0.os.symm,p6.tape.trans B0.tape.symm,p6.output.trans B0.output.symm,by rw[z6];exact HZ5.o,λb hb=>K6 b Y Y⟩,K6,(by obtain⟨es,cl,J,_⟩:=hm.o;exact⟨es,cl,J⟩)⟩,⟨p6⟩⟩):=h
def DM(F:Z c.Ok)(mG:0<=cap)(Eu:cap<=4096)(Gq:w0<=mb)(ih:Z (∀l' r',l'<r'->r'-l'<r-l->r'<=c.n->su w0 sb A n p B m q c cap mb l' r'))(hl:l<r)(hr:r<=c.n)
  [a:Sl w0 A n c.W] [b:Sl w0 B m c.K] [aj w w0] [Bx w sb 292 (fM A n p B m q cap mb)] (hm:Z (Mem w mb c cap bad nk)) (Q:Z (∀g,bad g->g<w.1.size)) (hnk:Z (∀a b,nk a b->r-l<b-a))
  (hno:Z (∀w':World,w'.heap[mb]?=w.heap[mb]?->(Instr.lookup 290 (.map (some mb)) (eg (l:Int) (r:Int)) true).run prog w'=.ok (.tuple #[.agg #[()],.bool false]) w'))
  (vC:Z (Mem w mb c cap bad (λa b=>nk a b\/a=l/\b=r))):
  () 199 #[.pointer sb,.agg #[l,r]] w (wQ w0 w mb c cap bad nk l r):=by
 obtain⟨CB,CP,FB⟩:=gW;have cA:=hm.o.lt;have Po:=F.o.n2;have hmn:m=c.n:=b.len;have nD:n=c.n+1:=a.len.trans F.o.len;have Zw:∀{v:ab} [aM w v],(Instr.lookup 290 (.map (some mb)) (eg (l:Int) (r:Int)) true).run prog v=.ok (.tuple #[.agg #[()],.bool false]) v:=λ{v} [x:aM w v]=>hno.o v (x.st.block _ cA);obtain⟨N,hN⟩:=lh (c.rl cap l);have hK0:=F.o.k9 l;have zp:=F.o.I0 l;have hN':N=(cap-c.kept l+1).toNat:=hN.symm;have hN4:N<=4097:=Y;obtain⟨K,hK⟩:=lh (c.kept l);have w1:IntKind.i64.wrap (cap-K)=cap-K:=by rw[a7];omega
 have w2:IntKind.i64.wrap (cap-K+1)=cap-K+1:=by rw[a7];omega
 have w3:max (0:Int) (cap-K+1)=(N:Int):=by omega
 have R6:=Pm N Y;have Th:=U hK;have hln:l<n:=Y;have hrn:r<n:=Y;have hrm:r<=m:=Y;have acI:m<=64:=Y;have HN:=U hN;clear hK hN' hK0 zp hmn nD Po hN;go_in;go_upto_region 1 with fail;refine uD (λu1 _ _ _=>?_);refine ax u1 ap (λR _=>?_);refine qL [0,1,2,3,4,5,6,7,8] ?_;refine aJ 9 λK hK=>?_;obtain⟨ua,rfl⟩:=lg R;go_simp;refine aE hK<|bc (λR _ _=>?_);refine aJ 10 λK hK=>?_;go_simp;obtain⟨u7,hu7⟩:=lg (R.setCell (ua.1.size,0) ());rw[<-hu7];have Bu7:Below (World.heap u1).size u1 u7:=by rw[hu7];exact(aO u1 R).setCell (p:=⟨ua.1.size,0,none⟩) (ai) _
 have Pu7:aj u7 u1:=⟨Bu7⟩;refine aE hK ?_ ⟨Bu7⟩;clear hK K hu7;refine eE 11 ?_;refine a8 ?_;go_upto_region 4 with fail;refine aq ap (λub _=>?_);refine qL [0,1,2,3,4,5,6,7,8,9] ?_;refine aJ 10 λK hK=>?_;go_simp;refine(Mb Y).mono ?_;rintro e ub ⟨rfl,_⟩;dsimp only;refine aE hK ?_;rw[Th.o];refine qL [11,12,13] ?_;refine aJ 14 λK hK=>?_;obtain⟨D,rfl⟩:=lg ub;go_simp;refine aE hK<|bc (λub _ _=>?_);refine eE 15 ?_;refine a8 ?_;go_wp2_with fail;have kF:Bx ub D.1.size 3 (ints (kb N 0 1152921504606846976 0)):=by rw[Mg];exact am
 go_loopw [42] (λi wr=>∃M:Nat,M<=N/\i=.int .i64 M/\Bx wr D.1.size 3 (ints (kb N M 1152921504606846976 0))/\aj wr D) (λi _=>N-(intOf i).toNat);exact⟨0,aR _,rfl,kF,aC⟩;obtain⟨M,hM,rfl,kg,pr⟩:=hrel;by_cases O:M<N
 .have e1:(ints (kb N M 1152921504606846976 0))[M]?=some (.int .i64 0):=by rw[e4,s7 O,ag Y];rfl
  have V:=U (Pn (v:=1152921504606846976) (u:=0) O);have oG:Own wr D.1.size 3 (kb N M 1152921504606846976 0):=kg.ak;go_wp2_with fail;go_roundw;exact⟨M+1,Y,by go_num,⟨by rw[<-V.o];exact oG.av M _⟩,⟨(aO D wr).setCell (p:=⟨D.1.size,M,none⟩) (al _) _⟩⟩;exact zRe
 have afI:=U (show N<=M by omega);have kg2:Bx wr D.1.size 3 (ints (List.replicate N 1152921504606846976)):=by rw[<-Mh afI.o (v:=1152921504606846976) (u:=0)];exact kg
 clear kg;by_cases e:r=l+1
 .have t1:((r:Int)==(l:Int)+1)=true:=by simp;omega
  have qQ:0<=c.single l r:=by have:=F.o.uC r;have:=F.o.k9 l;unfold Ch.single;omega
  have Jp:c.single l r<=131072:=by have:=F.o.DD r;have:=F.o.I0 l;unfold Ch.single;omega
  obtain⟨S,hS⟩:∃S:Nat,c.single l r=(S:Int):=⟨(c.single l r).toNat,Y⟩;have V:=U hS;have HR:=U e;have h0r:0<r:=Y;have afJ:=U (show c.own r=c.own (l+1) by rw[e]);clear hS qQ Jp e;go_wp2_with fail;refine aq ap (λR _=>?_);refine qL [0,1,2,3,4] ?_;refine aJ 5 λK hK=>?_;go_simp;refine(Ph F hln hrn).mono ?_;rintro e R ⟨rfl,_⟩;dsimp only;refine aE hK ?_;rw[V.o];refine eE 6 ?_;refine a8 ?_;go_wp2_with fail;(have k0:Bx R D.1.size 3 (ints (c.dC cap l S)):=by rw[Ch.Mf (M:=S) (by rw[<-HR.o,V.o];exact eb _),HN.o];exact am);go_loopw [9] (λi wr=>∃M:Nat,S<=M/\i=.int .i64 M/\Bx wr D.1.size 3 (ints (c.dC cap l M))/\aj wr D) (λi _=>N-(intOf i).toNat);exact⟨S,al _,rfl,k0,aC⟩;obtain⟨M,hM,rfl,kg,pr⟩:=hrel;by_cases O:M<N
  .have e1:(ints (c.dC cap l M))[M]?=some (.int .i64 1152921504606846976):=by rw[e4,Ch.Ve (by rwa[HN.o])];rfl
   have vW:=U (Ch.Vc (c:=c) (cap:=cap) (l:=l) (M:=M) (by rwa[HN.o]) (by rw[<-HR.o,V.o];omega));have oG:Own wr D.1.size 3 (c.dC cap l M):=kg.ak;go_wp2_with (go_at_call 238;refine(abT Y Y).mono ?_;rintro e u ⟨rfl,_⟩);go_roundw;exact⟨M+1,Y,by go_num,⟨by rw[<-vW.o,<-afJ.o];exact(oG.at (w':=u)).av M _⟩,⟨(aO D u).setCell (p:=⟨D.1.size,M,none⟩) (al _) _⟩⟩;exact zRe
  have kg1:Bx wr D.1.size 3 (ints (c.row cap l r)):=by rw[HR.o,<-Ch.Vb (M:=M) (by rw[HN.o];omega)];exact kg
  have t6:Z (Mem wr mb c cap (λg=>(bad g\/g=w.1.size+1)\/g=D.1.size) (λa b=>nk a b\/a=l/\b=r)):=U ((vC.o.fresh (g0:=w.1.size+1) (db _)).fresh (g0:=D.1.size) ai).at;have rk:Z (∀b,b<w.1.size->b≠mb->wr.heap[b]?=w.heap[b]?):=λb J _=>(aO w wr).block b J;have LP:Z ((World.heap w).size<=wr.1.size):=ai;clear kg;exact zR0
 have t1:((r:Int)==(l:Int)+1)=false:=by simp;omega
 have En:l+1<r:=Y;clear e;obtain⟨W2,rfl⟩:=lg wr;have kJ:Bx W2 D.1.size 3 (ints (c.ku cap l r 0)):=by rwa[Ch.Pl,HN.o]
 have MZ:Z (Mem W2 mb c cap (λg=>(bad g\/g=w.1.size+1)\/g=D.1.size) (λa b=>nk a b\/a=l/\b=r)):=U ((vC.o.fresh (g0:=w.1.size+1) (db _)).fresh (g0:=D.1.size) ai).at;have afL:Z (SI w0 W2 W2 mb D.1.size c cap (λg=>(bad g\/g=w.1.size+1)\/g=D.1.size) (λa b=>nk a b\/a=l/\b=r)):=U ⟨MZ,λ_ _ _ _=>rfl,al _⟩;clear kg2;go_wp2_with fail;go_loopw [10,11,12] (λx y z wr=>∃(j k N2:Nat) (C:Int),k<=r/\x=.int .i64 N2/\y=.int .i64 C/\z=.int .i64 k/\Z (k=l+j+1)/\Z (c.nd l r j=(N2:Int))/\Z (c.cs l j=C)/\Z (SI w0 W2 wr mb D.1.size c cap (λg=>(bad g\/g=w.1.size+1)\/g=D.1.size) (λa b=>nk a b\/a=l/\b=r))/\Bx wr D.1.size 3 (ints (c.ku cap l r j))/\Bx wr sb 292 (fM A n p B m q cap mb)/\Bx wr w.1.size 294 #[l,r]/\Bx wr (w.1.size+1) 296 #[()]/\aj wr w0) (λ_ _ z _=>r-(intOf z).toNat);exact⟨0,l+1,0,0,Y,rfl,rfl,by go_num,U rfl,U rfl,U rfl,afL,kJ,am,am,am,aC⟩;obtain⟨j,k,N2,C,hk,rfl,rfl,rfl,P,Un,M8,V,kg,kS,kP,k4,pr⟩:=hrel;by_cases O:k<r
 .have hlk:l<k:=by have:=P.o;omega
  have hjr:j<=64:=by have:=P.o;have:=F.o.n2;omega
  obtain⟨jl,In⟩:=lh (l+j);(have hjm:jl<m:=by have:=P.o;omega);obtain⟨N3,hN3⟩:∃N3:Nat,c.nd l r (j+1)=(N3:Int):=⟨(c.nd l r (j+1)).toNat,by have:=Ch.Z6 (c:=c) l r (j+1);omega⟩;(have Qu:max (N2:Int) (c.step l r k)=(N3:Int):=by rw[<-hN3,Ch.nd,Un.o,<-P.o]);have hC0:=F.o.Gm l j;have Eb:=F.o.L8 l j;have p4:=F.o.k_0 jl;have HG:=F.o.Z5 jl;rw[M8.o]at hC0 Eb;obtain⟨C2,Pq⟩:=lh (C+c.k jl);have y6:Z (c.cs l (j+1)=C2):=U (by rw[Ch.cs,M8.o,In,Pq]);(have hw4:IntKind.i64.wrap (C+c.k jl)=C2:=by rw[Pq,a7];omega);(have V4:IntKind.i64.wrap ((k:Int)-1)=(jl:Int):=by rw[a7];have:=P.o;omega);have Mi:=U hN3;have oG:Own wr D.1.size 3 (c.ku cap l r j):=kg.ak
  have NS:∀{g:Nat} {T:TypeId} {cs:dw} {x u:ab} [aM wr x] (_:SI w0 x u mb D.1.size c cap (λg=>(bad g\/g=w.1.size+1)\/g=D.1.size) (λa b=>nk a b\/a=l/\b=r)) (_:aA wr g T cs),T≠3->aA u g T cs:=
   λ{g T cs x u} _ s bk hT=>((s.keep g (bN bk.lt ai) (V.o.mem.aF bk) (λe=>oG.aF bk (λe=>hT e.symm) e.symm)).trans (bk.at (w':=x)))
  have CSP:N3<N->∀{x:ab} [aM wr x],() 240 #[.pointer sb,.agg #[l,r],k,N3,C2,.slice D.1.size N N] x
    (λe u=>e=.returned (.tuple #[])/\Z (SI w0 x u mb D.1.size c cap (λg=>(bad g\/g=w.1.size+1)\/g=D.1.size) (λa b=>nk a b\/a=l/\b=r))/\Bx u D.1.size 3 (ints (c.ku cap l r (j+1)))/\aj u w0):=λhlen {x} lx=>by
   have px:aj x w0:=⟨(aM.trans (am:aM w0 wr) lx).st⟩;have bx:Bx x sb 292 (fM A n p B m q cap mb):=⟨kS.ak.at⟩;have bg:Bx x D.1.size 3 (ints (c.ku cap l r j)):=⟨kg.ak.at⟩;have Ej:(World.heap D).size<x.1.size:=bg.ak.lt;have J:=Vd (bad:=λg=>(bad g\/g=w.1.size+1)\/g=D.1.size) (nk:=λa b=>nk a b\/a=l/\b=r) F ih P hlk O hr (U (V.o.mem.at (w':=x))) (U λg hg=>by
    rcases hg with(hg|hg)|hg
    .exact Nat.lt_trans (Q.o g hg) (Nat.lt_of_le_of_lt ai Ej)
    .have:=(Bx.ak (w:=D) (g:=w.1.size+1)).lt;omega
    .omega) (U λa b hab=>by
    rcases hab with hab|⟨rfl,rfl⟩
    .exact eW (hnk.o a b hab)
    .exact al _) (U (.inr rfl)) Mi y6 (by rwa[HN.o]) Eu ai
   rw[HN.o]at J;exact J.mono λe u ⟨J,h2,h3,h4⟩=>⟨J,U h2,h3,h4⟩
  clear hC0 Eb p4 HG Pq hN3 In hjr;obtain⟨b1,o1,rfl,mM,v1⟩:=Sl.aaf (c:=c) (w:=w0) (A:=B) (n:=m) (l:=jl) hjm;by_cases hlen:N3<N
  .go_wp2_with fail;refine aq ap (λR _=>?_);refine qL [0,1,2,3,4,5,6] ?_;refine aJ 7 λK hK=>?_;go_simp;refine(DI F hlk O hrm).mono ?_;rintro e R ⟨rfl,_⟩;dsimp only;refine aE hK ?_;refine qL [8,9] ?_;refine a8 ?_;go_wp2_with (go_at_call 240;refine(CSP hlen).mono ?_;rintro e u ⟨rfl,hs,kg3,p3⟩);exact⟨⟨j+1,k+1,N3,C2,Y,rfl,rfl,by go_num,U (by rw[P.o];omega),Mi,y6,U ((V.o.at (w':=R)).trans hs.o),kg3,⟨NS hs.o kS.ak ao⟩,⟨NS hs.o kP.ak ao⟩,⟨NS hs.o k4.ak ao⟩,p3⟩,by simp[intOf];omega⟩
  have hj9:c.ku cap l r j=c.ku cap l r (j+1):=by rw[<-Ch.yX (M:=N) (by rw[Mi.o];omega),Ch.Gp (by rw[HN.o];exact al _)]
  have HJ9:=U hj9;clear hj9;go_wp2_with fail;refine aq ap (λR _=>?_);refine qL [0,1,2,3,4,5,6] ?_;refine aJ 7 λK hK=>?_;go_simp;refine(DI F hlk O hrm).mono ?_;rintro e R ⟨rfl,_⟩;dsimp only;refine aE hK ?_;refine qL [8,9] ?_;refine a8 ?_;go_wp2_with fail;exact⟨⟨j+1,k+1,N3,C2,Y,rfl,rfl,by go_num,U (by rw[P.o];omega),Mi,y6,U (V.o.at (w':=R)),(by rw[<-HJ9.o];exact am),am,am,am,aC⟩,by simp[intOf];omega⟩
 have hj:j=r-l-1:=by have:=P.o;omega
 have kg1:Bx wr D.1.size 3 (ints (c.row cap l r)):=by rw[<-Ch.Pk En,<-hj];exact kg
 have t6:=U V.o.mem;have hwm:(World.heap w).size<=D:=ai;have rk:Z (∀b,b<w.1.size->b≠mb->wr.heap[b]?=w.heap[b]?):=λb J h2=>(V.o.keep b (bN J ai) h2 Y).trans ((aO w W2).block b J);have LP:Z ((World.heap w).size<=wr.1.size):=aQ ai V.o.size;clear kg hj;exact zR0
def qG(e:Z c.Ok)(j:0<=cap)(u:cap<=4096)(b:w0<=mb)[Sl w0 A n c.W][Sl w0 B m c.K]:
  ∀(s l r:Nat),r-l<=s->l<r->r<=c.n->su w0 sb A n p B m q c cap mb l r
 |0,l,r,hs,hl,_=>Y
 |s+1,l,r,hs,hl,hr=>λw bad nk hp E hm y C=>by rcases hm.look l r with⟨g,z,F,hg⟩|⟨z,D⟩;have:Bx w g 3 (ints (c.row cap l r)):=⟨F⟩;exact DL hp hm z am hg;exact DM e j u b (U λG I z D J=>qG e j u b s G I Y z J) hl hr hm y C z D
end
end
section
variable{w0:World}{sb:Nat}{y:Int}{bad:Nat->Prop}{nk:Nat->Nat->Prop}
def Vf(w:ab)(o:Obj):(w.alloc o).heap[w.1.size]?=some o:=by
 show(w.heap.push o)[w.1.size]?=some o;exact Array.getElem?_push_size
section
variable{w:World}{n p:Nat}
def abU(w:ab)(A:bz)(n p:Nat)(B:bz)(m q:Nat)(c:Ch)(cap:Int)(e:Ending)(w':ab):Prop:=
 ∃sb mb,e=.returned (.pointer (some ⟨sb,0,none⟩))/\w.1.size<=sb/\w.1.size<=mb/\Bx w' sb 292 (fM A n p B m q cap mb)/\Z (∀b,Mem w' mb c cap (λ_=>False) b)/\aj w' w
def Ch.sn:c.ws 0 (j+1)=c.ws 0 j+c.w (j+1):=by rw[Ch.ws,cQ]
def Ch.Ok.acJ(h:c.Ok)(l:Nat):∀j:Nat,c.ws l j<=65536*(j:Int)
 |0=>by simp[Ch.ws]
 |j+1=>by have:=h.acJ l j;have:=h.DD (l+j+1);simp only[Ch.ws];omega
def DN(e:Z c.Ok)(u:n<=p)[a:Sl w A n c.W][b:Sl w B m c.K](l:Z (min cap (c.cq 0 c.n)=y)):
  () 198 #[.agg #[(A,n,p),(B,m,q)],cap] w (abU w A n p B m q c y):=by
 obtain⟨CB,CP⟩:=hY;have C:=e.o.n2;have j:m=c.n:=b.len;obtain rfl:n=m+1:=by rw[j];exact a.len.trans e.o.len
 obtain⟨Q,D,r⟩:=nV (P:=prog) 24 ap ap A (m+1) p 1 1 rfl Y u;have E:Sl w Q m (c.W.drop 1):=⟨r w c.W a.len.symm a.rd,by rw[e2,<-a.len];rfl⟩;clear r;rw[Nat.add_sub_cancel]at D;have R:Z (min cap (2*c.ws 0 m)=y):=U (by rw[<-l.o,Ch.cq,Ch.kept,ah rfl,j];simp);have I:m<=64:=Y;clear j C;have T:=@run_makeMap prog;go_in;go_wp2_with fail;go_loopw [5,12] (λs i wr=>∃(k:Nat) (S:Int),k<=m/\i=.int .i64 k/\s=.int .i64 S/\Z (2*c.ws 0 k=S)/\Bx wr w.1.size 244 #[.slice A (m+1) p,(B,m,q)]/\aj wr w) (λ_ i _=>m-(intOf i).toNat);exact⟨0,0,aR _,rfl,rfl,U rfl,am,aC⟩;obtain⟨k,S,hk,rfl,rfl,J,hx,pr⟩:=hrel;by_cases F:k<m
 .obtain⟨b1,o1,z,rfl,V,v1,L⟩:=E.get F;have G:c.w (k+1)=z:=Ch.aae (by have:=L.o;rw[iF]at this;rw[vd];exact this);have z0:=e.o.uC (k+1);have M:=e.o.DD (k+1);have X:=e.o.sn 0 k;have s2:=e.o.acJ 0 k;have hS:=J.o;have HN:Z (2*c.ws 0 (k+1)=S+2*z):=U (by rw[Ch.sn,G];omega);rw[G]at z0 M;(have w1:IntKind.i64.wrap (2*z)=2*z:=by rw[a7];omega);(have w2:IntKind.i64.wrap (S+2*z)=S+2*z:=by rw[a7];omega);clear G z0 M X s2 hS L;go_wp2_with fail;go_roundw;exact⟨k+1,S+2*z,Y,by go_num,rfl,HN,am,aC⟩;exact zRe
 have N:min cap S=y:=by rw[<-R.o,<-J.o,show k=m from Y]
 go_wp2_with fail;go_ret;have hM:∀O,Mem ((wr.alloc (.map #[] 0)).alloc (.cells #[.slice A (m+1) p,(B,m,q),m,y,.map (some wr.1.size)] 292)) wr.1.size c y (λ_=>False) O:=λO=>⟨#[],0,((aO (wr.alloc (.map #[] 0)) _).block _ aI).trans (Vf _ _),aI⟩;exact⟨wr.1.size+1,wr.1.size,rfl,Nat.le_succ_of_le ai,ai,am,U hM,aC⟩
def su.at0(h:su w0 sb A n p B m q c cap mb 0 r)(p1:aj w w0)[e:Bx w sb 292 (fM A n p B m q cap mb)](hm:Mem w mb c cap bad nk)(j:∀g,bad g->g<w.1.size)(l:∀a b,nk a b->r-0<b-a):
  () 199 #[.pointer sb,.agg #[an,r]] w (wQ w0 w mb c cap bad nk 0 r):=h w bad nk p1 e hm j l
def Ch.iA(c:Ch)(cap:Int):Int:=if c.fb cap=0 then(if c.V 0 c.n cap<1152921504606846976 then 0 else 26)else c.fb cap
def Ch.yl(h:c.fb cap=0):c.Ok/\0<=cap/\cap<=4096:=by
 unfold Ch.fb at h;split at h
 .split at h;omega;exact⟨Ch.adR ‹_›,Y,Y⟩
 omega
def Ch.Ok.Gr(h:c.Ok)(l r:Nat):0<=c.cq l r:=by
 have:=h.k9 l;have:=h.sn l (r-l);unfold Ch.cq;omega
end
end
def Ch.fwd(c:Ch)(l r:Nat):Nat->List (Int×Int)
 |0=>[]
 |j+1=>fwd c l r j++[(if r=c.n then 1 else 2,(l:Int)+j+1)]++(if j=0 then[]else[(3,(l:Int)+j)])
def Ch.Pr(c:Ch)(l r:Nat)(m:Int)(j:Nat):Prop:=
 c.nd l r (j+1)<=m/\c.cs l (j+1)+c.V (l+j+1) r (m-c.w (l+j+1))+c.V l (l+j+1) m=c.V l r m
inductive Ch.kh(c:Ch):Nat->Nat->Int->List (Int×Int)->Prop
 |last {l:Nat} {m:Int} (h:l+1=c.n) (hm:c.single l (l+1)<=m):kh c l (l+1) m [(1,(l:Int)+1),(4,0),(3,(l:Int)+1),(5,0),(6,(l:Int)+1)]
 |one {l:Nat} {m:Int} (h:l+1<c.n) (hm:c.single l (l+1)<=m):kh c l (l+1) m [(6,(l:Int)+1)]
 |split {l r j:Nat} {m:Int} {p q:List (Int×Int)} (hj:l+j+1<r) (hr:r<=c.n) (hn:c.nd l r (j+1)<=m)
   (hv:c.cs l (j+1)+c.V (l+j+1) r (m-c.w (l+j+1))+c.V l (l+j+1) m=c.V l r m) (hm:∀i,i<j->¬c.Pr l r m i)
   (hp:kh c (l+j+1) r (m-c.w (l+j+1)) p) (hq:kh c l (l+j+1) m q):
   kh c l r m (c.fwd l r (j+1)++p++[(3,(l:Int)+j+1)]++q)
def Ch.abV{m:Int}(h:c.Ok)(e:l+j+1<r)(hr:r<=c.n)(hv:c.cs l (j+1)+c.V (l+j+1) r (m-c.w (l+j+1))+c.V l (l+j+1) m=c.V l r m)(u:c.V l r m<1152921504606846976):
  c.V (l+j+1) r (m-c.w (l+j+1))<1152921504606846976/\c.V l (l+j+1) m<1152921504606846976:=by
 have a:=(h.mod (l:=l+j+1) (r:=r) (m:=m-c.w (l+j+1)) Y hr).lo;have b:=(h.mod (l:=l) (r:=l+j+1) (m:=m) Y Y).lo;have d:=h.Gm l (j+1);omega
theorem Ch.kh.only{m:Int}{p q:List (Int×Int)}(hp:kh c l r m p):kh c l r m q->p=q:=by
 induction hp generalizing q with
 |last h hm=>
  intro hq;cases hq with
  |last=>rfl
  |one C=>omega
  |split z=>omega
 |one h hm=>
  intro hq;cases hq with
  |last C=>omega
  |one=>rfl
  |split z=>omega
 |split z hr D hv hm hp hq E F=>
  intro G;cases G with
  |last=>omega
  |one=>omega
  | @split _ _ B _ M N I J b u y K L=>rename_i j _ _ _;(have e:j=B:=by rcases GH j B with h|h|h;exact absurd ⟨D,hv⟩ (y _ h);exact h;exact absurd ⟨b,u⟩ (hm _ h));grind
variable{w0:World}{sb:Nat}
section
variable{w:World}{n p:Nat}
def zRg(h:Γ:=by obtain⟨i,z,b,u⟩:=Ch.I1 j h;exact⟨i,Y,b,u⟩):=h
def Ch.I1{V:Nat->Nat->Int->Int}{l r:Nat}{m:Int}:∀j,c.pv V l r m j<1152921504606846976->
  ∃i,i<j/\c.nd l r (i+1)<=m/\c.cs l (i+1)+V (l+i+1) r (m-c.w (l+i+1))+V l (l+i+1) m=c.pv V l r m j
 |0,h=>by simp[Ch.pv]at h
 |j+1,h=>by simp only[Ch.pv]at h⊢;by_cases e:c.nd l r (j+1)<=m;rw[ah e]at h⊢;by_cases y:c.pv V l r m j<=c.cs l (j+1)+V (l+j+1) r (m-c.w (l+j+1))+V l (l+j+1) m;rw[Int.min_eq_left y]at h⊢;exact zRg;rw[Int.min_eq_right Y];exact⟨j,nP j,e,rfl⟩;rw[ag e]at h⊢;exact zRg
def Ch.Vg{m:Int}(h:l+1<r)(hV:c.V l r m<1152921504606846976):∃i,i<r-l-1/\c.Pr l r m i:=by
 rw[Ch.oq h]at hV;obtain⟨i,b,e,j⟩:=Ch.I1 _ hV;exact⟨i,b,e,by rw[Ch.oq h];exact j⟩
def aak(w0 w:ab)(mb:Nat)(c:Ch)(cap:Int)(l r M:Nat)(e:Ending)(w':ab):Prop:=
 ∃k j:Nat,Z (k=l+j+1)/\e=.returned k/\k<r/\Z (c.Pr l r M j)/\Z (∀i,i<j->¬c.Pr l r M i)/\Z (Mem w' mb c cap (λ_=>False) (λ_ _=>False))/\Nx mb w' w/\aj w' w0
def zRh(h:Γ:=by have:=F.o;omega):=h
def aal(E:Z c.Ok)(mG:0<=cap)(Eu:cap<=4096)(Gq:w0<=mb)(hl:l+1<r)(hr:r<=c.n)
  [a:Sl w0 A n c.W] [b:Sl w0 B m c.K] [hp:aj w w0] [Bx w sb 292 (fM A n p B m q cap mb)] (hm:Z (Mem w mb c cap (λ_=>False) (λ_ _=>False))) (hM:M<c.rl cap l) (hV:Z (c.V l r M<1152921504606846976)):
  () 243 #[.pointer sb,.agg #[l,r],M] w (aak w0 w mb c cap l r M):=by
 obtain⟨CB,CP⟩:=hY;have FR:=@qE;have Po:=E.o.n2;have hmn:m=c.n:=b.len;have nD:n=c.n+1:=a.len.trans E.o.len;have Q:∀l' r',l'<r'->r'<=c.n->su w0 sb A n p B m q c cap mb l' r':=λl' r' h1 h2=>qG E mG Eu Gq r' l' r' Y h1 h2;have K5:=Q l r Y hr;have hrm:r<=m:=Y;have acI:m<=64:=Y;have ti:=U nD;have O:=U (Ch.Vg hl hV);have hMc:(M:Int)<=cap-c.kept l:=by unfold Ch.rl at hM;omega
 have I2:=U hM;obtain⟨N,hN⟩:=lh (c.rl cap l);rw[hN]at hM;obtain⟨x,hx⟩:=lh (c.V l r M);have e1:(ints (c.row cap l r))[M]?=some (.int .i64 x):=by rw[e4,Ch.qD (by rw[hN];exact hM),hx];rfl
 have HN:=U hN;have HX:=U hx;have hHV:=U Q;clear hmn nD Po hN hx Q;go_in;go_upto_region 3 with(go_at_call 199;refine er (λu _ _=>?_);refine(K5.at (aG w0 u) (hm.o.at (w':=u)) (λ_ h=>h.elim) (λ_ _ h=>h.elim)).mono ?_;rintro e v9 ⟨g,rfl,kR,nb,mR,nx,pR⟩;rw[HN.o]);have HM9:=mR;have nx9:Nx mb v9 w:=((Nx.of hm).trans nx);have kS9:Bx v9 sb 292 (fM A n p B m q cap mb):=am;have kP9:Bx v9 w.1.size 294 #[l,r]:=am;have R:=U nx9;clear nx9 nx kR nb e1 HN hM hm K5;go_wp2_with fail;go_loopw [8,9,10] (λx y z wr=>∃(j k N2:Nat) (C:Int),k<=r/\x=.int .i64 N2/\y=.int .i64 C/\z=.int .i64 k/\Z (k=l+j+1)/\Z (c.nd l r j=(N2:Int))/\Z (c.cs l j=C)/\Z (∀i,i<j->¬c.Pr l r M i)/\Z (Mem wr mb c cap (λ_=>False) (λ_ _=>False))/\Z (Nx mb wr w)/\Bx wr sb 292 (fM A n p B m q cap mb)/\Bx wr w.1.size 294 #[l,r]/\aj wr w0) (λ_ _ z _=>r-(intOf z).toNat);exact⟨0,l+1,0,0,Y,rfl,rfl,by go_num,U rfl,U rfl,U rfl,U (λi h=>absurd h (zE i)),HM9,R,kS9,kP9,aC⟩;obtain⟨j,k,N2,C,hk,rfl,rfl,rfl,F,Un,M8,J,HM,R,kS,kP,pr⟩:=hrel;by_cases L:k<r;rotate_left;exfalso;obtain⟨i,h1,h2⟩:=O.o;have:=F.o;exact J.o i Y h2;obtain⟨N3,S⟩:∃N3:Nat,c.nd l r (j+1)=(N3:Int):=⟨(c.nd l r (j+1)).toNat,by have:=Ch.Z6 (c:=c) l r (j+1);omega⟩;by_cases hNM:M<N3;exfalso;obtain⟨i,h1,h2⟩:=O.o;by_cases hij:i<j;exact J.o i hij h2;have:=Ch.Z7 (c:=c) (l:=l) (r:=r) (i:=j+1) (j:=i+1) Y;have:=h2.1;omega;have T:l<k:=zRh;have hjr:j<=64:=zRh;have oP:k<n:=by have:=ti.o;omega
 obtain⟨X,In⟩:=lh (l+j);have hjm:X<m:=zRh;have Qu:max (N2:Int) (c.step l r k)=(N3:Int):=by rw[<-S,Ch.nd,Un.o,<-F.o]
 have hC0:=E.o.Gm l j;have Eb:=E.o.L8 l j;have p4:=E.o.k_0 X;have HG:=E.o.Z5 X;rw[M8.o]at hC0 Eb;obtain⟨I,Pq⟩:=lh (C+c.k X);have y6:Z (c.cs l (j+1)=I):=U (by rw[Ch.cs,M8.o,In,Pq]);have hw4:IntKind.i64.wrap (C+c.k X)=I:=by rw[Pq,a7];omega
 have V4:IntKind.i64.wrap ((k:Int)-1)=(X:Int):=by rw[a7];exact zRh
 have Mi:=U S;have hwM:c.w k<=(M:Int):=by have:=E.o.Z9 (l:=l) (r:=r) (j:=j) (m:=(M:Int)) (by rw[Mi.o];omega);rwa[<-F.o]at this
 obtain⟨D,hD⟩:∃D:Nat,(M:Int)-c.w k=(D:Int):=⟨((M:Int)-c.w k).toNat,Y⟩;have Bf:=E.o.uC k;have tR:c.kept k=c.w k:=by unfold Ch.kept;rw[ag Y]
 have zf:=E.o.k9 l;have TO:D<c.rl cap k:=by unfold Ch.rl;rw[tR];omega
 have e2:(ints (c.row cap k r))[D]?=some (.int .i64 (c.V k r (D:Int))):=by rw[e4,Ch.qD TO];rfl
 have e3:(ints (c.row cap l k))[M]?=some (.int .i64 (c.V l k (M:Int))):=by rw[e4,Ch.qD I2.o];rfl
 have hM4:M<=4096:=Y;have hs:IntKind.i64.wrap (D:Int)=(D:Int):=by rw[a7];omega
 have m1:=E.o.mod (l:=k) (r:=r) (m:=(D:Int)) L hr;have m2:=E.o.mod (l:=l) (r:=k) (m:=(M:Int)) T Y;have J6:=m1.lo;have m1h:=m1.hi Y;have m2l:=m2.lo;have m2h:=m2.hi Y;obtain⟨x1,qU⟩:=lh (c.V k r (D:Int));obtain⟨x2,tr⟩:=lh (c.V l k (M:Int));rw[qU]at e2 J6 m1h;rw[tr]at e3 m2l m2h;have s1:IntKind.i64.wrap (I+x1)=I+x1:=by rw[a7];omega
 have s2:IntKind.i64.wrap (I+x1+x2)=I+x1+x2:=by rw[a7];omega
 have HEQ:Z (c.Pr l r M j↔I+x1+x2=x):=U (by
  unfold Ch.Pr;rw[y6.o,Mi.o,HX.o,<-F.o,hD,qU,tr];exact⟨λh=>h.2,λh=>⟨Y,h⟩⟩)
 obtain⟨Nk,hNk⟩:=lh (c.rl cap k);obtain⟨Nl,hNl⟩:=lh (c.rl cap l);rw[hNk]at TO;have hMl:M<Nl:=by rwa[<-hNl]
 have HNK:=U hNk;have HNL:=U hNl;obtain⟨b1,o1,hB,mM,v1⟩:=Sl.aaf (c:=c) (w:=w0) (A:=B) (n:=m) (l:=X) hjm;obtain⟨b2,o2,hA,iM,v2⟩:=Sl.DH (c:=c) (w:=w0) (A:=A) (n:=n) (l:=k) oP;subst hA hB;clear m1 m2 J6 m1h m2l m2h qU tr zf tR Bf hwM hC0 Eb p4 HG Pq S In hjr hNk hNl;go_wp2_with fail;refine aq ap (λu1 _=>?_);refine qL [0,1,2,3,4,5,6] ?_;refine aJ 7 λK hK=>?_;go_simp;refine(DI E T L hrm).mono ?_;rintro e u1 ⟨rfl,_⟩;dsimp only;refine aE hK ?_;refine qL [8,9] ?_;refine a8 ?_;go_upto_region 9 with fail;refine aU w0 (λw9=>Bx w9 w.1.size 294 #[l,r]) ap am (λux _=>?_);refine br 0 ?_;refine br 1 ?_;refine br 2 ?_;refine br 3 ?_;refine br 4 ?_;refine br 7 ?_;refine br 8 ?_;refine br 9 ?_;refine br 10 ?_;refine br 11 ?_;refine aJ 5 λK hK=>?_;go_simp;refine((hHV.o k r L hr).at (aG w0 ux) (HM.o.at (w':=ux)) (λ_ h=>h.elim) (λ_ _ h=>h.elim)).mono ?_;rintro e ux ⟨gR,rfl,kR,nbR,mR,nxR,pR⟩;dsimp only;refine aE hK ?_ ⟨aG w0 _,am⟩;rw[HNK.o];refine br 6 ?_;refine aJ 12 λK hK=>?_;go_simp;refine((hHV.o l k T Y).at pR mR.o (λ_ h=>h.elim) (λ_ _ h=>h.elim)).mono ?_;rintro e ux ⟨gL,rfl,kL,nbL,mL,nxL,pL⟩;dsimp only;refine aE hK ?_ ⟨aG w0 _,am⟩;rw[HNL.o];refine br 13 ?_;refine br 14 ?_;refine br 15 ?_;refine a8 ?_;go_upto_region 10 with fail;obtain⟨v,rfl⟩:=lg ux;have oJ:Nx mb v w:=((R.o.trans (Nx.of HM)).trans nxR).trans nxL;have P:=U oJ;have kS2:Bx v sb 292 (fM (some ⟨b2,o2,none⟩) n p (some ⟨b1,o1,none⟩) m q cap mb):=am;have kP2:Bx v w.1.size 294 #[l,r]:=am;have kR2:Bx v gR 3 (ints (c.row cap k r)):=am;clear oJ nxR nxL kS kP pr pR mR kR;have hsD:IntKind.i64.wrap ((M:Int)-c.w k)=(D:Int):=by rwa[hD]
 clear hD;by_cases G:I+x1+x2=x
 .have t1:(I+x1+x2==x)=true:=by simpa using G
  have HIT:=U (HEQ.o.2 G);clear G;refine aq ap (λuz _=>?_);refine qL [0,1,2,3,4,5,6,7,8,9,10,11,12,13,14,15,16,17,18,19,20,21] ?_;refine a8 ?_;go_wp2_with fail;go_ret;exact⟨k,j,F,rfl,L,HIT,J,U mL.o.at,P.o.trans (Nx.of mL.o),aC⟩
 have t1:(I+x1+x2==x)=false:=by simpa using G
 have HIT:=U (λh=>G (HEQ.o.1 h));clear G;refine aq ap (λuz _=>?_);refine qL [0,1,2,3,4,5,6,7,8,9,10,11,12,13,14,15,16,17,18,19,20,21] ?_;refine a8 ?_;go_wp2_with fail
 exact⟨⟨j+1,k+1,N3,I,Y,rfl,rfl,by go_num,U (by rw[F.o];omega),Mi,y6,U (λi hi=>by
  by_cases e:i=j
  .subst e;exact HIT
  .exact J.o i Y),U (mL.o.at (w':=uz)),U (P.o.trans (Nx.of mL.o)),am,am,aC⟩,by simp[intOf];omega⟩
end
variable{b wb:Nat}{T':TypeId}{kx:Array Value}
def oX(bs:List Bool):Array Value:=(bs.map Value.bool).toArray
def Ps{bs:List Bool}{x:Bool}(h:bs[i]?=some x):(oX bs)[i]?=some (.bool x):=by simp[oX,h]
def Pt{bs:List Bool}{x:Bool}:(oX bs).setIfInBounds i (.bool x)=oX (bs.set i x):=by simp[oX,jb]
section
variable{w x:World}{n p gs:Nat}{bs:List Bool}{ps:List (Int×Int)}
@[grind cases]structure WI(w0 w:World)(sb:Nat)(A:Option Addr)(n p:Nat)(B:Option Addr)(m q:Nat)(c:Ch)(cap:Int)(mb wb gs:Nat)(bs:List Bool)(ps:List (Int×Int)):Prop where
 pr:aj w w0
 I3:Bx w sb 292 (fM A n p B m q cap mb)
 mem:Mem w mb c cap (λ_=>False) (λ_ _=>False)
 wr:∃CA cc,Bx w wb 299 #[.pointer sb,(gs,n,n),.slice CA ps cc]/\bZ w w0.1.size CA cc ps
 sv:Bx w gs 4 (oX bs)
 AQ:w0<=wb
 BX:w0<=gs
 cA:w0<=mb
@[grind cases]structure Kp(mb wb gs:Nat)(w w':World):Prop where
 size:w.1.size<=w'.1.size
 keep:∀b,b<w.1.size->b≠mb->b≠wb->b≠gs->(∀cs fz,w.heap[b]?≠some (.cells cs 98 fz))->w'.heap[b]?=w.heap[b]?
theorem Kp.trans(h:Kp mb wb gs w x)(k:Kp mb wb gs x u):Kp mb wb gs w u:=
 ⟨ay,ay⟩
def Kp.of[l:aM w w']:Kp mb wb gs w w':=⟨l.st.size,λb hb _ _ _ _=>l.st.block b hb⟩
theorem Kp.nx(h:Nx mb w' w):Kp mb wb gs w w':=⟨h.st.size,ay⟩
theorem aA.As{k:Nat}{cs:dw}(h:aA w g T cs)(b:aA w k T' kx)(e:T≠T'):g≠k:=zRk
theorem Kp.bx{cs:dw}(h:Kp mb wb gs w w')(i:WI w0 w sb A n p B m q c cap mb wb gs bs ps)(k:Bx w b T cs)(z:T≠98)(j:T≠299)(l:T≠4):Bx w' b T cs:=by
 obtain⟨_,_,r,_⟩:=i.wr;refine⟨(h.keep b k.ak.lt (i.mem.aF k.ak) (k.ak.As r.ak j) (k.ak.As i.sv.ak l) λy C e=>?_).trans k.ak⟩;grind [aA]
def WI.at[l:aM w w'](h:WI w0 w sb A n p B m q c cap mb wb gs bs ps):WI w0 w' sb A n p B m q c cap mb wb gs bs ps:=by
 obtain⟨CA,cc,b,e⟩:=h.wr;have hp:=h.pr;have:aM w0 w:=am;exact⟨⟨(aM.trans this l).st⟩,⟨h.I3.ak.at⟩,h.mem.at,⟨CA,cc,⟨b.ak.at⟩,e.at⟩,⟨h.sv.ak.at⟩,h.AQ,h.BX,h.cA⟩
theorem WI.nx(h:WI w0 w sb A n p B m q c cap mb wb gs bs ps)(k:Nx mb w' w)(hm:Mem w' mb c cap (λ_=>False) (λ_ _=>False))(hp:aj w' w0):WI w0 w' sb A n p B m q c cap mb wb gs bs ps:=by
 obtain⟨CA,cc,r,b⟩:=h.wr;have y:=h.I3;have l:=h.sv;refine⟨hp,am,hm,⟨CA,cc,am,b.same λj e=>k.keep _ (b.lt j e) λl=>?_⟩,am,h.AQ,h.BX,h.cA⟩;obtain⟨cs,z,C⟩:=b.MI j e;grind
theorem WI.keep(i:WI w0 w sb A n p B m q c cap mb wb gs bs ps)(hs:w.1.size<=w'.1.size)(h:∀b,b<w.1.size->b≠wb->b≠gs->(∀cs y,w.heap[b]?≠some (.cells cs 98 y))->w'.heap[b]?=w.heap[b]?):
  Bx w' sb 292 (fM A n p B m q cap mb)/\Mem w' mb c cap (λ_=>False) (λ_ _=>False)/\Kp mb wb gs w w':=by
 have MI:∀{b:Nat} {T:TypeId} {cs:dw},aA w b T cs->T≠98->T≠299->T≠4->w'.heap[b]?=w.heap[b]?:=zRk;refine⟨⟨(MI i.I3.ak ao ao ao).trans i.I3.ak⟩,?_,⟨hs,ay⟩⟩;obtain⟨z,cl,C,D⟩:=i.mem;have hm:w'.heap[mb]?=w.heap[mb]?:=zRk;refine⟨z,cl,hm.trans C,λe E=>?_⟩;obtain⟨l,r,g,F,G,I,J,j,K,L⟩:=D e E;exact⟨l,r,g,F,G,I,J,(MI (T:=3) (cs:=ints (c.row cap l r)) j ao ao ao).trans j,K,L⟩
def zRn(h:Γ:=by grind [Below.heap_setCell]):=h
theorem s8(hi:Z (WI w0 w sb A n p B m q c cap mb wb gs bs ps))(T:ps.length<=1000000):
  () 242 #[.pointer wb,z,id] w (λe w'=>e=.returned (.tuple #[])/\Z (WI w0 w' sb A n p B m q c cap mb wb gs bs (ps++[(z,id)]))/\Z (Kp mb wb gs w w')):=by
 have V:=@az;have X:=@aP;obtain⟨CA,cc,F,G⟩:=hi.o.wr;have N:=hi.o.pr;have I:w0.1.size<=w.1.size:=ai;go_in;go_wp2_with (at_builtin;refine tB rfl _ _ _ rfl underlying50 rfl G z id rfl Y I ?_;intro J c3 w3 r y l;obtain⟨C,-⟩:Bx w3 wb 299 #[.pointer sb,(gs,n,n),.slice CA ps cc]/\True:=⟨⟨(l _ F.ak.lt (G.aF F.ak ao)).trans F.ak⟩,bq⟩);obtain⟨D,E⟩:=lg (w3.setCell (wb,2) (.slice J (ps.length+1) c3));have hS:∀b,b≠wb->D.heap[b]?=w3.heap[b]?:=zRn;have O:D.1.size=w3.1.size:=by rw[E];simp
 have hF:∀b,b<w.1.size->b≠wb->b≠gs->(∀cs M,w.heap[b]?≠some (.cells cs 98 M))->D.heap[b]?=w.heap[b]?:=λb hb P _ Q=>
  (hS b P).trans (l b hb λK e R=>by obtain⟨cs,M,ht⟩:=G.MI K e;rw[R]at ht;exact Q _ _ ht)
 obtain⟨f1,f2,f3⟩:=hi.o.keep (by rw[O];exact y.size) hF;have L:aA D wb 299 #[.pointer sb,(gs,n,n),.slice J (ps.length+1) c3]:=by rw[E];exact aA.av C.ak 2 _
 have j:=hi.o.sv;have S:Below w0.1.size w0 D:=by rw[E];exact((aO w0 w).trans y).setCell (p:=⟨wb,2,none⟩) hi.o.AQ _
 refine⟨rfl,.tuple #[],by simp[results,results242,go_sem],rfl,U (E▸⟨⟨S⟩,f1,f2,⟨J,c3,by rw[bh];exact⟨L⟩,r.same λK e=>hS _ (r.aF C.ak ao K e)⟩,⟨(hS gs (j.ak.As F.ak ao)).trans ((l gs j.ak.lt (G.aF j.ak ao)).trans j.ak)⟩,hi.o.AQ,hi.o.BX,hi.o.cA⟩),U (E▸f3)⟩
theorem WI.mark(i:WI w0 w sb A n p B m q c cap mb wb gs bs ps)(k:Nat)(v:Bool):WI w0 (w.setCell (gs,k) (.bool v)) sb A n p B m q c cap mb wb gs (bs.set k v) ps/\Kp mb wb gs w (w.setCell (gs,k) (.bool v)):=by
 obtain⟨CA,cc,j,l⟩:=i.wr;have r:=i.pr;have hS:∀b,b≠gs->(w.setCell (gs,k) (.bool v)).heap[b]?=w.heap[b]?:=zRn;obtain⟨f1,f2,f3⟩:=i.keep (w':=w.setCell (gs,k) (.bool v)) aI ay;exact⟨⟨⟨(aO w0 w).setCell (p:=⟨gs,k,none⟩) i.BX _⟩,f1,f2,⟨CA,cc,⟨(hS _ (j.ak.As i.sv.ak ao)).trans j.ak⟩,l.same λy e=>hS _ (l.aF i.sv.ak ao y e)⟩,⟨by rw[<-Pt];exact i.sv.ak.av k _⟩,i.AQ,i.BX,i.cA⟩,f3⟩
theorem DO{bs:List Bool}{k:Nat}{v:Bool}(h:bs[k]?=some v):bs.set k v=bs:=by
 apply eo;grind
def sw{k:Nat}{v:Bool}(hi:Z (WI w0 w sb A n p B m q c cap mb wb gs bs ps))(l:ps.length<=1000000)(y:k<n)(hv:Z (bs[k]?=some v)):
  () 241 #[.pointer wb,k] w (λe w'=>e=.returned (.tuple #[])/\Z (WI w0 w' sb A n p B m q c cap mb wb gs (bs.set k true) (ps++[(if v then 2 else 1,(k:Int))]))/\Z (Kp mb wb gs w w')):=by
 have z:=@az;have C:=@aP;obtain⟨CA,cc,D,E⟩:=hi.o.wr;have F:=hi.o.sv;have G:(oX bs)[k]?=some (.bool v):=Ps hv;rcases v with _|_
 .have r:=hi.o.mark k true;go_in;go_wp2_with (go_at_call 242;refine(s8 (U r.1) l).mono ?_;rintro e u ⟨rfl,b,j⟩);exact⟨rfl,.tuple #[],by simp[results,results241,go_sem],rfl,b,U (r.2.trans j.o)⟩
 have hs:=U (DO hv);go_in;go_wp2_with (go_at_call 242;refine(s8 hi l).mono ?_;rintro e u ⟨rfl,b,j⟩);exact⟨rfl,.tuple #[],by simp[results,results241,go_sem],rfl,by rw[hs.o];exact b,j⟩
end
variable{v:Value}
class C0(w:World)(g:Nat)(v:outParam Value):Prop where
 eq:w.cell? (g,0)=some v
section
variable{w x:World}{n p gs:Nat}{bs:List Bool}{ps:List (Int×Int)}
def aam[h:C0 w g v]:w.cell? (g,0)=some v:=h.eq
def Vh{w:ab}{g:Nat}{v:Value}(h:w.cell? (g,i)=some v):g<w:=by
 rcases h1:w.heap[g]? with _|o;simp[World.cell?,h1]at h;exact(fY.1 h1).1
instance(priority:=low) C0.step[p:aj w' w][h:C0 w g v]:C0 w' g v:=⟨(p.st.cell (p:=⟨g,0,none⟩) (Vh h.eq)).trans h.eq⟩
def Marks(n t:Nat)(bs:List Bool):Prop:=bs=n/\∀i,1<=i->i<n->bs[i]?=some (decide (i<=t))
def Marks.set{t:Nat}(h:Marks n t bs):Marks n (t+1) (bs.set (t+1) true):=by
 refine⟨by rw[ei];exact h.1,λi l b=>?_⟩;rw[iI];by_cases e:t+1=i;subst e;rw[ah rfl,ah (by rwa[h.1]),ea (al _)];rw[ag e,h.2 i l b];congr 1;by_cases j:i<=t;rw[ea j,ea Y];rw[ew j,ew Y]
def Marks.same{t k:Nat}(h:Marks n t bs)(b:k<=t)(e:1<=k)(j:k<n):Marks n t (bs.set k true):=by
 rw[DO];exact h;rw[h.2 k e j,ea b]
def DP(w0 w:ab)(sb:Nat)(A:bz)(n p:Nat)(B:bz)(m q:Nat)(c:Ch)(cap:Int)(mb wb gs:Nat)(ps:List (Int×Int))(l r M:Nat)(e:Ending)(w':ab):Prop:=
 e=.returned (.tuple #[])/\∃code b,Z (c.kh l r M code)/\Z (WI w0 w' sb A n p B m q c cap mb wb gs b (ps++code))/\Z (Kp mb wb gs w w')/\Z (Marks n c.n b)/\code.length+130<=135*(r-l)
def ot(w0:ab)(sb:Nat)(A:bz)(n p:Nat)(B:bz)(m q:Nat)(c:Ch)(cap:Int)(mb wb gs l r:Nat):Prop:=
 ∀(w:ab) (bs:List Bool) (ps:List (Int×Int)) (M:Nat),Z (WI w0 w sb A n p B m q c cap mb wb gs bs ps)->(M:Int)<=cap-c.kept l->Z (c.V l r M<1152921504606846976)->ps.length+135*(r-l)<=100000->Z (Marks n (if r=c.n then l else c.n) bs)->
  () 200 #[.pointer wb,.agg #[l,r],M] w (DP w0 w sb A n p B m q c cap mb wb gs ps l r M)
def ot.at(h:ot w0 sb A n p B m q c cap mb wb gs l r)(b:Z (WI w0 w sb A n p B m q c cap mb wb gs bs ps))(e:(M:Int)<=cap-c.kept l)(j:Z (c.V l r M<1152921504606846976))(y:ps.length+135*(r-l)<=100000)(z:Z (Marks n (if r=c.n then l else c.n) bs)):
  () 200 #[.pointer wb,.agg #[l,r],M] w (DP w0 w sb A n p B m q c cap mb wb gs ps l r M):=h w bs ps M b e j y z
def Ch.Pu{M:Int}(h:c.V l (l+1) M<1152921504606846976):c.single l (l+1)<=M:=by
 rw[Ch.sk]at h;split at h;assumption;omega
def I4(y:Z (r=l+1))(hr:r<=c.n)(L:Z c.Ok)[a:Sl w0 A n c.W][b:Sl w0 B m c.K]:ot w0 sb A n p B m q c cap mb wb gs l r:=by
 intro w bs ps M z hM hV hl Q;have CB:=@az;have N:m=c.n:=b.len;have R:n=c.n+1:=a.len.trans L.o.len;have O:r<n:=Y;have V:l<=64:=by have:=y.o;have:=L.o.n2;omega
 have hl9:ps.length<=99900:=by have:=y.o;omega
 obtain⟨CA,cc,kW,oI⟩:=z.o.wr;have IY:=z.o.I3;have t1:((r:Int)==(l:Int)+1)=true:=by have:=y.o;simp;omega
 have hS:=U (Ch.Pu (c:=c) (l:=l) (M:=M) (by rw[<-y.o];exact hV.o));have G:=U N;clear N R;by_cases e:r=m
 .have t2:((r:Int)==(m:Int))=true:=by simp;omega
  have S:Z (bs[r]?=some false):=U (by
   rw[Q.o.2 r (by have:=y.o;omega) O,ah (e.trans G.o),ew (by have:=y.o;omega)])
  have X:=U (e.trans G);clear e;go_in;go_wp2_with fail;refine aq ap (λI _=>?_);refine qL [0,1,2,3,4,5,6,7,8,9] ?_;refine a8 ?_;obtain⟨J,-⟩:Bx I w.1.size 294 #[l,r]/\True:=⟨am,bq⟩;obtain⟨z,j⟩:Z (WI w0 I sb A n p B m q c cap mb wb gs bs ps)/\Z (Kp mb wb gs w I):=⟨U z.o.at,U Kp.of⟩;go_wp2_with (first|(go_at_call 241;refine(sw z Y O S).mono ?_;rintro e u ⟨rfl,F,C⟩;obtain⟨J,j⟩:Bx u w.1.size 294 #[l,r]/\Z (Kp mb wb gs w u):=⟨C.o.bx z.o J ao ao ao,U (j.o.trans C.o)⟩;obtain⟨z,-⟩:_/\True:=⟨F,bq⟩;clear F C)|(go_at_call 242;refine(s8 z (by(try simp);omega)).mono ?_;rintro e u ⟨rfl,F,C⟩;obtain⟨J,j⟩:Bx u w.1.size 294 #[l,r]/\Z (Kp mb wb gs w u):=⟨C.o.bx z.o J ao ao ao,U (j.o.trans C.o)⟩;obtain⟨z,-⟩:_/\True:=⟨F,bq⟩;clear F C));have D:=Q.o;rw[ah X.o]at D;have E:=y.o;(have P:l+1=c.n:=by rwa[<-E]);(have T:(r:Int)=(l:Int)+1:=by omega);refine⟨rfl,.tuple #[],by simp[results,results200,go_sem],rfl,[(1,(l:Int)+1),(4,0),(3,(l:Int)+1),(5,0),(6,(l:Int)+1)],bs.set r true,U (by rw[E];exact .last P hS),?_,j,U (by rw[E,<-P];exact D.set),by simp;omega⟩;have h9:=z.o;rw[T]at h9;refine U ?_;simpa using h9
 have t2:((r:Int)==(m:Int))=false:=by simp;omega
 have ia:r<c.n:=by have:=G.o;omega
 clear e;go_in;go_wp2_with fail;refine aq ap (λI _=>?_);refine qL [0,1,2,3,4,5,6,7,8,9] ?_;refine a8 ?_;obtain⟨J,-⟩:Bx I w.1.size 294 #[l,r]/\True:=⟨am,bq⟩;obtain⟨z,j⟩:Z (WI w0 I sb A n p B m q c cap mb wb gs bs ps)/\Z (Kp mb wb gs w I):=⟨U z.o.at,U Kp.of⟩;go_wp2_with (go_at_call 242;refine(s8 z (by(try simp);omega)).mono ?_;rintro e u ⟨rfl,F,C⟩;obtain⟨J,j⟩:Bx u w.1.size 294 #[l,r]/\Z (Kp mb wb gs w u):=⟨C.o.bx z.o J ao ao ao,U (j.o.trans C.o)⟩;obtain⟨z,-⟩:_/\True:=⟨F,bq⟩;clear F C);have D:=Q.o;rw[ag Y]at D;have E:=y.o;have T:(r:Int)=(l:Int)+1:=by omega
 refine⟨rfl,.tuple #[],by simp[results,results200,go_sem],rfl,[(6,(l:Int)+1)],bs,U (by rw[E];exact .one Y hS),by rw[<-T];exact z,j,U D,by simp;omega⟩
theorem WI.c0(h:WI w0 w sb A n p B m q c cap mb wb gs bs ps):C0 w wb (.pointer sb):=by
 obtain⟨_,_,b,_⟩:=h.wr;exact⟨b.ak.cell 0⟩
def Ch.DQ{l r:Nat}:∀j,(c.fwd l r j).length<=2*j
 |0=>by simp[Ch.fwd]
 |j+1=>by have:=Ch.DQ (l:=l) (r:=r) j;simp only[Ch.fwd,bh,l5];split<;>simp<;>omega
def Ch.Mj(h:j<=64):(c.fwd l r j).length<=128:=by have:=Ch.DQ (c:=c) (l:=l) (r:=r) j;omega
def zRi(h:Γ:=by have:=E.o;omega):=h
def EV(hlr:l+1<r)(hr:r<=c.n)(I:Z c.Ok)(mG:0<=cap)(Eu:cap<=4096)[a:Sl w0 A n c.W][b:Sl w0 B m c.K]
  (ih:Z (∀l' r',l'<r'->r'-l'<r-l->r'<=c.n->ot w0 sb A n p B m q c cap mb wb gs l' r')):ot w0 sb A n p B m q c cap mb wb gs l r:=by
 intro w bs ps M y hM hV hl X;obtain⟨CB,CP⟩:=hY;have CC:=@aam;have hmn:m=c.n:=b.len;have nD:n=c.n+1:=a.len.trans I.o.len;have hrn:r<n:=Y;have Po:=I.o.n2;have agC:l<=64:=Y;have agD:r<=64:=Y;have hl9:ps.length<=99900:=Y;obtain⟨CA,cc,kW,oI⟩:=y.o.wr;have V6:=y.o.pr;have IY:=y.o.I3;have Gq:=y.o.cA;have t1:((r:Int)==(l:Int)+1)=false:=by simp;omega
 have ti:=U nD;have hMl:M<c.rl cap l:=by unfold Ch.rl;omega
 have hM4:M<=4096:=by have:=I.o.k9 l;omega
 clear hmn nD Po;go_in;go_wp2_with fail;refine aU w0 (λw9=>Bx w9 w.1.size 294 #[l,r]/\Bx w9 wb 299 #[.pointer sb,(gs,n,n),.slice CA ps cc]) ap ⟨am,am⟩ (λu1 _=>?_);refine bp 0 ?_;refine bp 1 ?_;refine bp 2 ?_;refine bp 3 ?_;refine bp 4 ?_;refine bp 5 ?_;refine aJ 6 λK hK=>?_;obtain⟨ua,rfl⟩:=lg u1;go_simp;refine(aal (hp:=aG w0 ua) (l:=l) (r:=r) (M:=M) I mG Eu Gq hlr hr (U (y.o.mem.at (w':=ua))) hMl hV).mono ?_;rintro e u1 ⟨k,j,F,rfl,hkr,Vg,abZ,vC,nx2,p2⟩;dsimp only;refine aE hK ?_ ⟨aG w0 _,⟨am,am⟩⟩;refine bp 7 ?_;refine a8 ?_;skip;have Yi:Z (WI w0 u1 sb A n p B m q c cap mb wb gs bs ps):=U ((y.o.at (w':=ua)).nx nx2 vC.o p2);have kP0:Bx u1 w.1.size 294 #[l,r]:=am;have hK0:Z (Kp mb wb gs w u1):=U (Kp.trans (Kp.of (w':=ua)) (Kp.nx nx2));have hlk:l<k:=zRh;have agF:k<=64:=Y;have acH:j+1<=64:=zRh;clear nx2 vC kW IY;go_wp2_with fail;go_loopw [7] (λz wr=>∃(i id:Nat) (J:List Bool),id<=k+1/\z=.int .i64 id/\Z (id=l+i+1)/\Z (WI w0 wr sb A n p B m q c cap mb wb gs J (ps++c.fwd l r i))/\Z (Kp mb wb gs w wr)/\Z (Marks n (if r=c.n then l+i else c.n) J)/\Bx wr w.1.size 294 #[l,r]) (λz _=>k+1-(intOf z).toNat);exact⟨0,l+1,bs,Y,by go_num,U rfl,by rw[Ch.fwd,ev];exact Yi,hK0,X,kP0⟩;clear y V6 Yi hK0 kP0 X p2;obtain⟨i,id,J,hid,rfl,E,y,C,X,S⟩:=hrel;by_cases bD:id<=k
 .have L:id<n:=Y;have afM:i<=64:=by have:=E.o;omega
  have UH:(c.fwd l r i).length<=128:=Ch.Mj afM;obtain⟨v,hv⟩:∃v:Bool,J[id]?=some v:=⟨_,X.o.2 id zRi L⟩;have adT:Z ((if v then(2:Int)else 1)=if r=c.n then 1 else 2):=U (by
   rw[X.o.2 id zRi L]at hv;injection hv with hv
   by_cases e:r=c.n
   .rw[ah e]at hv⊢;rw[<-hv,ew zRi];rfl
   .rw[ag e]at hv⊢;rw[<-hv,ea (by have:=ti.o;omega)];rfl)
  have hb1:=U hv;have jF:Z (Marks n (if r=c.n then l+(i+1)else c.n) (J.set id true)):=U (by
   have h1:=X.o;by_cases e:r=c.n
   .rw[ah e]at h1⊢;have:=E.o;rw[this];exact h1.set
   .rw[ag e]at h1⊢;exact h1.same (by have:=ti.o;omega) zRi L)
  obtain⟨d,hd⟩:=lh (l+i);(have V4:IntKind.i64.wrap ((id:Int)-1)=(d:Int):=by rw[a7];have:=E.o;omega);have V6:=y.o.pr;have HD:=U hd;clear hv hd;obtain⟨CA,cc,kW,oI⟩:=y.o.wr;by_cases T:i=0;focus
   have t2:((d:Int) !=(l:Int))=false:=by have:=HD.o;simp;omega
   have hF:Z (c.fwd l r (i+1)=c.fwd l r i++[(if r=c.n then 1 else 2,(id:Int))]):=U (by
    rw[Ch.fwd,ah T,ev,E.o];simp)
   clear T;go_wp2_with (go_at_call 241;refine(sw y (by(try simp);omega) L hb1).mono ?_;rintro e u ⟨rfl,O,N⟩;obtain⟨S,C⟩:Bx u w.1.size 294 #[l,r]/\Z (Kp mb wb gs w u):=⟨N.o.bx y.o S ao ao ao,U (C.o.trans N.o)⟩;obtain⟨y,-⟩:_/\True:=⟨O,bq⟩;clear O N)
  rotate_left;focus
   have t2:((d:Int) !=(l:Int))=true:=by have:=HD.o;rw[jc];omega
   have hF:Z (c.fwd l r (i+1)=c.fwd l r i++[(if r=c.n then 1 else 2,(id:Int))]++[(3,(d:Int))]):=U (by
    rw[Ch.fwd,ag T,E.o,<-HD.o];simp)
   clear T;go_wp2_with (first|(go_at_call 241;refine(sw y (by(try simp);omega) L hb1).mono ?_;rintro e u ⟨rfl,O,N⟩;obtain⟨S,C⟩:Bx u w.1.size 294 #[l,r]/\Z (Kp mb wb gs w u):=⟨N.o.bx y.o S ao ao ao,U (C.o.trans N.o)⟩;obtain⟨y,-⟩:_/\True:=⟨O,bq⟩;clear O N)|(go_at_call 242;refine(s8 y (by(try simp);omega)).mono ?_;rintro e u ⟨rfl,O,N⟩;obtain⟨S,C⟩:Bx u w.1.size 294 #[l,r]/\Z (Kp mb wb gs w u):=⟨N.o.bx y.o S ao ao ao,U (C.o.trans N.o)⟩;obtain⟨y,-⟩:_/\True:=⟨O,bq⟩;clear O N))
  all_goals exact⟨⟨i+1,id+1,J.set id true,Y,by go_num,U (by rw[E.o];omega),U (by have h:=y.o;rw[adT.o]at h;rw[hF.o];simpa using h),C,jF,S⟩,by simp[intOf];omega⟩
 obtain rfl:i=j+1:=by have:=E.o;exact zRh
 have oP:k<n:=Y;have V6:=y.o.pr;have IY:=y.o.I3;have agG:=y.o.c0;obtain⟨b2,o2,hA,iM,v2⟩:=Sl.DH (c:=c) (w:=w0) (A:=A) (n:=n) (l:=k) oP;subst hA;have UH:(c.fwd l r (j+1)).length<=2*(j+1):=Ch.DQ _;have hwM:c.w k<=(M:Int):=by have:=I.o.Z9 Vg.o.1;rwa[<-F.o]at this
 obtain⟨D,hD⟩:∃D:Nat,(M:Int)-c.w k=(D:Int):=⟨((M:Int)-c.w k).toNat,Y⟩;have Bf:=I.o.uC k;have zf:=I.o.k9 l;have tR:c.kept k=c.w k:=by unfold Ch.kept;rw[ag Y]
 have hD1:(D:Int)<=cap-c.kept k:=by rw[tR];omega
 have V:=Ch.abV I (by rwa[<-F.o]) hr Vg.o.2 hV.o;rw[<-F.o,hD]at V;have hV1:=U V.1;have UU:=U V.2;have hB2:Z (Marks n (if r=c.n then k else c.n) J):=U (by have h:=X.o;rw[show l+(j+1)=k from by have:=F.o;omega]at h;exact h);have hsD:IntKind.i64.wrap ((M:Int)-c.w k)=(D:Int):=by rw[hD,a7];omega
 have HD:=U hD;have P:(ps++c.fwd l r (j+1)).length+135*(r-k)<=100000:=by have:=F.o;rw[bh];omega
 clear V Bf zf tR hwM hD X;go_upto_region 15 with fail;refine aU w0 (λw9=>Bx w9 w.1.size 294 #[l,r]/\C0 w9 wb (.pointer sb)/\Bx w9 sb 292 (fM (some ⟨b2,o2,none⟩) n p B m q cap mb)) ap ⟨am,am,am⟩ (λu3 _=>?_);refine a1 0 ?_;refine a1 1 ?_;refine a1 2 ?_;refine a1 3 ?_;refine a1 4 ?_;refine a1 5 ?_;refine a1 6 ?_;refine a1 7 ?_;refine a1 8 ?_;refine a1 9 ?_;refine a1 10 ?_;refine a1 11 ?_;refine a1 12 ?_;refine a1 13 ?_;refine a1 14 ?_;refine a1 15 ?_;refine a1 16 ?_;refine a1 17 ?_;refine aJ 18 λK hK=>?_;go_simp;refine((ih.o k r hkr Y hr).at (bs:=J) (ps:=ps++c.fwd l r (j+1)) (M:=D) (U (y.o.at (w':=u3))) hD1 hV1 P hB2).mono ?_;rintro e u4 ⟨rfl,G,bs3,qX,Q,vy,D8,vz⟩;have p4:=Q.o.pr;have kP4:Bx u4 w.1.size 294 #[l,r]:=vy.o.bx (y.o.at (w':=u3)) am ao ao ao;have s4:=Q.o.I3;have c4:=Q.o.c0;dsimp only;refine aE hK ?_ ⟨aG w0 _,kP4,c4,s4⟩;refine a8 ?_;skip;obtain⟨y,C,S⟩:Z (WI w0 u4 sb (some ⟨b2,o2,none⟩) n p B m q c cap mb wb gs bs3 (ps++c.fwd l r (j+1)++G))/\Z (Kp mb wb gs w u4)/\Bx u4 w.1.size 294 #[l,r]:=⟨Q,U ((C.o.trans (Kp.of (w':=u3))).trans vy.o),kP4⟩;have hB3:Z (Marks n (if k=c.n then l else c.n) bs3):=U (by rw[ag Y];exact D8.o);have R:(ps++c.fwd l r (j+1)++G++[(3,(k:Int))]).length+135*(k-l)<=100000:=by have:=F.o;simp only[bh,l5];omega
 have adU:(ps++c.fwd l r (j+1)++G).length<=1000000:=by simp only[bh,l5]at R⊢;omega
 clear P Q vy kP4;go_wp2_with (first|(go_at_call 242;refine(s8 y adU).mono ?_;rintro e u ⟨rfl,O,N⟩;obtain⟨S,C⟩:Bx u w.1.size 294 #[l,r]/\Z (Kp mb wb gs w u):=⟨N.o.bx y.o S ao ao ao,U (C.o.trans N.o)⟩;obtain⟨y,-⟩:_/\True:=⟨O,bq⟩;clear O N)|(go_at_call 200;refine((ih.o l k hlk Y Y).at (bs:=bs3) (M:=M) y hM UU R hB3).mono ?_;rintro e u5 ⟨rfl,adV,bs4,rE,hI5,hK5,hm4,Bg⟩));have hkj:=F.o;have hkI:(k:Int)=(l:Int)+j+1:=by omega
 refine⟨rfl,.tuple #[],by simp[results,results200,go_sem],rfl,c.fwd l r (j+1)++G++[(3,(l:Int)+j+1)]++adV,bs4,U (.split Y hr Vg.o.1 Vg.o.2 abZ.o ?_ ?_),U ?_,U (C.o.trans hK5.o),hm4,?_⟩;have:=qX.o;rw[<-HD.o,hkj]at this;exact this;have:=rE.o;rw[hkj]at this;exact this;have h:=hI5.o;rw[hkI]at h;simpa using h;simp only[bh,l5];omega
def Mk(b:Z c.Ok)(j:0<=cap)(y:cap<=4096)[Sl w0 A n c.W][Sl w0 B m c.K]:∀(s l r:Nat),r-l<=s->l<r->r<=c.n->ot w0 sb A n p B m q c cap mb wb gs l r
 |0,l,r,hs,hl,_=>Y
 |s+1,l,r,hs,hl,hr=>by by_cases e:r=l+1;exact I4 e hr b;exact EV Y hr b j y (U λz C D F E=>Mk b j y s z C Y D E)
end
