/- Lemmas. -/
import Derived.Test.YtmkjnlifimffkaaGreatF32
import Derived.Conc.LoneSelect
namespace Go.Proofs.YtmkjnlifimffkaaGreat
open Go.RowKit Tryz
set_option linter.all false
set_option maxRecDepth 100000
set_option maxHeartbeats 0
variable{p u w' w1:World}{GB g i j l r:Nat}{m' m2:jl}{e':qw}{J:Jk}{O:List Int}{L:List (List Int)}{cap id kd:Int}{s:iv}
section
variable{w:World}{B k n:Nat}{m:jl}{e:qw}{gs:List Tn}{X:Tn}{N:aU}{P:List TV}{x:TV}
def aaq[aF p w](T:Hx (vz p J N L P x))(c:gn N O L l P x)(hJ:J.l=l)(hI:fT N O L l P x cap s e)(hS:gu p w J g r GB m e gs X)(hc:j3 (cX N cap) s kd id=0)(Z:N.nodes.length<=200)(qo:e.A.nx<=100000000000)(sr:e.A.mv<=100000000000):
  () 55 #[.pointer g,.agg #[kd,id]] w (ua p J g r GB N O L l P x cap (ga (cX N cap) s kd id) e.A 1000):=by
 have CB:=@aa;have hr:=(qg hc).1;have z:e.A.nx<=1000000000000:=om;have C:e.A.mv<=1000000000000:=om;have M:=ae c;have Q:=ae hI;have R:=ae hS;have S:=ae hc;have HJ:=ae hJ;clear c hI hS hc hJ;rcases Ga hr with rfl|rfl|rfl|rfl|rfl|rfl
 .clear hr
  go_in
  go_upto_region 1 with fail
  refine aw (λu U k0=>?_)
  go_wp2_with (go_at_call 97;refine(BH (p:=p) T M Q (R.o.at (w':=u)) S (.inl rfl) Z z C).mono ?_;rintro V Y ⟨rfl,D,E,b,F,G,I,y,K⟩)
  go_ret;exact⟨rfl,D,E,b,F,G,I,ae ⟨by have:=y.o.1;omega,by have:=y.o.2;omega⟩,K⟩
 .clear hr
  go_in
  go_upto_region 1 with fail
  refine aw (λu U k0=>?_)
  go_wp2_with (go_at_call 97;refine(BH (p:=p) T M Q (R.o.at (w':=u)) S (.inr rfl) Z z C).mono ?_;rintro V Y ⟨rfl,D,E,b,F,G,I,y,K⟩)
  go_ret;exact⟨rfl,D,E,b,F,G,I,ae ⟨by have:=y.o.1;omega,by have:=y.o.2;omega⟩,K⟩
 .clear hr
  go_in
  go_upto_region 1 with fail
  refine aw (λu U k0=>?_)
  go_upto_region 6 with fail
  refine wp_region_still_tail 5 aq aq ?_;change wpStill _ _ (u).drew _ _ _;simp only[fh,dK,g4,eT]
  repeat still_step
  refine fJ ?_
  go_wp2_with (go_at_call 98;refine(Ou (p:=p) M Q (R.o.at (w':=u.drew)) S).mono ?_;rintro V Y ⟨rfl,D,E,b,F,G,I,y,K⟩)
  go_ret;exact⟨rfl,D,E,b,F,G,I,ae ⟨by have:=y.o.1;omega,by have:=y.o.2;omega⟩,K⟩
 .clear hr
  go_in
  go_upto_region 1 with fail
  refine aw (λu U k0=>?_)
  go_wp2_with (go_at_call 99;refine(Ov (p:=p) (id:=id) T M HJ Q (R.o.at (w':=u)) S).mono ?_;rintro V Y ⟨rfl,D,E,b,F,G,I,y,K⟩)
  go_ret;exact⟨rfl,D,E,b,F,G,I,ae ⟨by have:=y.o.1;omega,by have:=y.o.2;omega⟩,K⟩
 .clear hr
  go_in
  go_upto_region 1 with fail
  refine aw (λu U k0=>?_)
  go_wp2_with (go_at_call 100;refine(Ow (p:=p) (id:=id) T M HJ Q (R.o.at (w':=u)) S Z z C).mono ?_;rintro V Y ⟨rfl,D,E,b,F,G,I,y,K⟩)
  go_ret;exact⟨rfl,D,E,b,F,G,I,ae ⟨by have:=y.o.1;omega,by have:=y.o.2;omega⟩,K⟩
 .clear hr
  go_in
  go_upto_region 1 with fail
  refine aw (λu U k0=>?_)
  go_wp2_with (go_at_call 101;refine(Tj (p:=p) T M Q (R.o.at (w':=u)) S Z qo sr).mono ?_;rintro V Y ⟨rfl,D,E,b,F,G,I,y,K⟩)
  go_ret;exact⟨rfl,D,E,b,F,G,I,y,K⟩
end
variable{A B K PA XA XB:Option Addr}{c cp cx d dx m mx np:Nat}{E P1 P2 P3 P4:Int}
section
variable{w:World}{n k nx cap:Nat}{N:aU}{ps:List Tn}{is:List (Int×Int)}{x:TV}
def OK[aQ w A n B m N][Ts w PA np ps][Sl w XA nx x.1][Sl w XB mx x.2][Is w K k is](j:Hx N.fits)(hs:Hx N.small)(r:Hx (a6 N=0))(hP:Hx ((ps.map Tn.tv).map (·.1)=bS N))(hO:Hx (fo ps))(u:Hx (x.1=N.dd))(hr:aJ x.1 x.2=true)(b:np<=100000000)(y:k<=65536)(l:cap<=16777216)
  (z:Hx (j9 N (cap:Int) is=E)) (C:Hx (oO N (cap:Int) is=(P1,P2,P3,P4))):
  () 52 #[.agg #[(A,n,c),(B,m,d),(PA,np,cp),(XA,nx,cx),(XB,mx,dx),(K,k,g),cap]] w (aD w (.tuple #[.agg #[P1,P2,P3,P4],E])):=by
 have F:=@aa;have G:=@aP;have e:=ae hr;have d1:decide ((cap:Int)<0)=false:=by simp
 have I:decide ((16777216:Int)<(cap:Int))=false:=by simp;omega
 clear hr
 go_in
 go_upto_region 1 with fail
 refine cT (λJ L k1 k2=>?_)
 go_wp2_with (first|(go_at_call 24;refine mv (Gl j hs r hP hO u e b) λM _=>?_)|(go_at_call 14;refine mv (Lc j hs y om z C) λD _=>?_))
 refine a8 (v:=.tuple #[.agg #[P1,P2,P3,P4],E]) ?_ rfl ?_
 .rw[b8 rfl];go_simp
 .exact⟨rfl,⟨((((a7 w D).setCell (p:=⟨w.1.size+1,0,none⟩) (b9 _) _).setCell (p:=⟨w.1.size+1,1,none⟩) (b9 _) _).setCell (p:=⟨w.1.size+1,2,none⟩) (b9 _) _).setCell (p:=⟨w.1.size+1,3,none⟩) (b9 _) _⟩⟩
end
section
open Go.Conc Go.RowKit
def Av(w:ay):() 54 #[.chan none] w λe w'=>e=.returned (.bool false)/\w'=w:=by
 refine calls_of_loneTo (λcs=>?_) (λw' h=>by cases h.1);have e:Frame.enter prog 54 #[.chan none] .normal=(base 54).at ⟨#[.chan none,undef,undef,undef,undef,undef,undef],[]⟩ [.code (f54.body.getD .skip)]:=by
  simp[Frame.enter,Frame.at,func54,base,f54]
 rw[e];refine LoneTo.goes (n:=12) ?_;simp only[f54,pZ]
 s_c stepG_seq
 s_reg
 s_op
 s_c stepG_region_end
 s_c stepG_seq
 s_reg
 s_op
 s_c stepG_region_end
 s_c stepG_seq
 s_reg
 s_stop
 refine LoneTo.step (step_lone_select_recv_nil (z:=.int .i64 0) (stepG_comm (cases:= #[rcaseNil au]) (blocking:=false) (shape:=.select) (w':=w) rfl rfl ak (by simp[go_sem,execOp,rcaseNil,Act.eval]))) ?_;rw[Frame.finish_at]
 walk_nrm
 refine LoneTo.goes (n:=11) ?_
 s_op
 s_op
 s_c stepG_region_end
 s_c stepG_block
 s_cond false
 s_c stepG_seq
 s_reg
 s_op
 s_c stepG_region_end
 s_c stepG_ret'
 s_stop
 exact LoneTo.done ⟨.returned (.bool false),_,rfl,⟨rfl,rfl⟩,rfl,rfl,rfl,rfl,_,func54,by simp[results,f54,Frame.at]⟩
def G6{w:ay}:() 54 #[.chan none] w (aD w (.bool false)):=(Av w).mono λ_ _ ⟨h,b⟩=>⟨h,by rw[b];exact⟨aY _ _⟩⟩
end
variable{R q:Nat}{z0 z1 z2 z3 z4 z5 z6 z7:Value}
def Lz(w:ay)(N:aU)(P:List TV)(x:TV)(cap np:Nat)(cost:Int)(e:Ending)(w':ay):Prop:=
 ∃A c gs X pk hi mv,e=.returned (.tuple #[.agg #[.int .i64 (uJ N P x),.slice A np c,.slice X.A X.zs.length X.c,.slice X.B X.xs.length X.d,.int .i64 pk,.int .i64 hi,.int .i64 mv,cost],au])/\Ts w' A np gs/\gs.map Tn.tv=(sP N P x).2/\TE w' X/\X.tv=(sP N P x).1.getD 0 T0/\hi<=cap/\aj w' w
section
variable{w:World}{n k nx cap:Nat}{N:aU}{ps gs:List Tn}{P:List TV}{x:TV}{is:List (Int×Int)}{e:qw}{X:Tn}{M:jl}{C:iu}
def JJ{cp:Int}(h:j9 N cp is=0):hB N=0/\(fF (cX N cp) (kB N.nodes.length) is).1=0/\mc (cX N cp) (fF (cX N cp) (kB N.nodes.length) is).2=true:=by
 unfold j9 at h
 split at h
 .rename_i j;unfold DM at h
  split at h
  .split at h
   .rename_i b
    split at h
    .rename_i y;exact⟨j,b,y⟩
    .cases h
   .rename_i b;exact absurd h b
  .rename_i b;exact absurd h b
 .rename_i b;exact absurd h b
def JK{a:Int×Int}{t:List (Int×Int)}(h:(fF C s (a::t)).1=0):j3 C s a.1 a.2=0/\fF C s (a::t)=fF C (ga C s a.1 a.2) t:=by
 unfold fF at h
 split at h
 .rename_i b;exact⟨b,by rw[fF,ah b]⟩
 .rename_i b;exact absurd h b
theorem gu.Gj(h:gu p w J g r GB M e gs X):Ts w GB J.np gs:=by
 have y:oW w p.1.size GB J.np gs:=⟨by rw[h.gl];exact h.row,λt ht=>(h.oP t ht).te,λt ht=>⟨λb hb=>⟨((h.oP t ht).oa b hb).1,λj=>((h.oP t ht).oa b hb).2.2.1 (d4.1 j).symm⟩,λb hb=>⟨((h.oP t ht).ob b hb).1,λj=>((h.oP t ht).ob b hb).2.2.1 (d4.1 j).symm⟩⟩⟩;have:=y.Gj;rw[h.gl]at this;exact this
def gu.o(h:gu p w J g r GB M e gs X){ob:Nat}(y:ob<p)(j:Kf (λb=>b=ob) (λb=>b=ob) w w'):Ts w' GB J.np gs/\TE w' X:=by
 have z:=h.D2.1;refine⟨j.JF h.Gj (λ_ b hb=>by have:=d4.1 hb;omega) λt ht=>⟨λb hb=>?_,λb hb=>?_⟩,j.rd h.mI.te.1 λb hb=>?_,j.rd h.mI.te.2.1 λb hb=>?_,h.mI.te.2.2⟩
 .have:=((h.oP t ht).oa b hb).2.2.2;omega
 .have:=((h.oP t ht).ob b hb).2.2.2;omega
 .have:=(h.mI.oa b hb).2.2.2;omega
 .have:=(h.mI.ob b hb).2.2.2;omega
def kf8:Kf (λb=>b=q) (λb=>b=q) u ((((((((u.setCell (q,0) z0).setCell (q,1) z1).setCell (q,2) z2).setCell (q,3) z3).setCell (q,4) z4).setCell (q,5) z5).setCell (q,6) z6).setCell (q,7) z7):=
 ((((((((Kf.refl (λb=>b=q) u).ax (q:=⟨q,0,none⟩) rfl z0).ax (q:=⟨q,1,none⟩) rfl z1).ax (q:=⟨q,2,none⟩) rfl z2).ax (q:=⟨q,3,none⟩) rfl z3).ax (q:=⟨q,4,none⟩) rfl z4).ax (q:=⟨q,5,none⟩) rfl z5).ax (q:=⟨q,6,none⟩) rfl z6).ax (q:=⟨q,7,none⟩) rfl z7
theorem JL[aF w u](hq:w<=q):aj ((((((((u.setCell (q,0) z0).setCell (q,1) z1).setCell (q,2) z2).setCell (q,3) z3).setCell (q,4) z4).setCell (q,5) z5).setCell (q,6) z6).setCell (q,7) z7) w:=
 kf8.prev λb j=>by rw[j];exact hq
def Wx[aQ w A n B m N][Ts w PA np ps][Sl w XA nx x.1][Sl w XB mx x.2][ki:Is w K k is](hf:Hx N.fits)(hs:Hx N.small)(Z:Hx (gn N O L l P x))(hP:Hx (ps.map Tn.tv=P))(hO:Hx (fo ps))(Vz:np<=1000000)(lx:nx<=cx)(RS:mx<=dx)(lp:np<=cp)(lB:m<=d)(hk:k<=65536)(U:cap<=16777216)(hn:N.nodes.length<=200)
  (HR:Hx (j9 N (cap:Int) is=0)) (HV:Hx (oO N (cap:Int) is=(P1,P2,P3,P4))):
  () 19 #[.agg #[(A,n,c),(B,m,d),(PA,np,cp),(XA,nx,cx),(XB,mx,dx),.slice K k R,cap],.chan none] w (Lz w N P x cap np P2):=by
 have CC:=@ct;obtain⟨CB,CP,FB⟩:=ha;have HE:Hx (a6 N=0):=Z.o.hE;have IK:Hx ((ps.map Tn.tv).map (·.1)=bS N):=ae (by rw[hP.o];exact Z.o.hF.ps);have HX:Hx (x.1=N.dd):=Z.o.hF.xs;have HXO:Hx (aJ x.1 x.2=true):=Z.o.hF.FX.1;obtain⟨z1,z2,z3⟩:=JJ HR;have HZ2:=ae z2;have HZ3:=ae z3;have DD:Hx (k=is):=ki.len;clear z1 z2 z3
 go_in
 go_upto_region 1 with fail
 refine cT (λu0 p0 k1 k2=>?_)
 go_upto_region 2 with(go_at_call 52;refine mv (OK hf hs HE IK hO HX HXO om hk U HR HV) λu1 _=>?_)
 refine aw (λu2 q8 k3=>?_);obtain⟨sb,JM⟩:=lg u1.1.size;rw[<-JM]at k3⊢;have Js:Hx (w.1.size+1<sb):=ae (by rw[JM];exact(ao:Bx u1 (w.1.size+1) _ _).al.lt);clear JM
 go_upto_region 5 with(go_at_call 53;refine(Oy hf hs Z hP hO Vz lx RS lp lB U).mono ?_;rintro e u3 ⟨p,SA,ns,sc,g,r,GB,M0,gs0,X0,rfl,pp,HB,pJ,p3⟩)
 obtain⟨J,hJ⟩:=lg (⟨A,n,c,B,m,d,PA,np,cp,XA,nx,cx,XB,mx,dx,K,k,R,cap,l,SA,ns,sc⟩:Jk);have hJl:J.l=l:=by rw[hJ]
 have HJN:Hx (J.np=np):=ae (by rw[hJ]);rw[<-hJ]at HB pJ;have Oe:Hx (w.1.size+1<p):=(ao:Bx p (w.1.size+1) _ _).al.lt;clear hJ
 go_wp2_with fail
 go_loopw [33] (λs33 wr=>∃(j:Nat) (s:iv) (M:jl) (e:qw) (gs:List Tn) (X:Tn),j<=k/\s33=.int .i64 (j:Int)/\Hx (gu p wr J g r GB M e gs X)/\Hx (fT N O L l P x (cap:Int) s e)/\Hx (fF (cX N (cap:Int)) s (is.drop j)=fF (cX N (cap:Int)) (kB N.nodes.length) is)/\Hx (e.A.nx<=1000*j/\e.A.mv<=1000*j)/\aj wr p) (λs33 _=>k-(intOf s33).toNat)
 .exact⟨0,kB N.nodes.length,M0,ex0 cap P,gs0,X0,aT _,rfl,pJ,ae (abB Z U),ae rfl,ae ⟨an _,an _⟩,p3⟩
 ·
  obtain⟨j,s,M,e,gs,X,hj,rfl,z,HI,HG,Y,hp⟩:=hrel;clear pJ p3;by_cases bK:j<k
  .obtain⟨b1,o1,kd,id,rfl,q6,v1,v2,e1⟩:=ki.get bK;have RH:is.drop j=(kd,id)::is.drop (j+1):=by
    obtain⟨h1,h2⟩:=a5.1 e1.o;rw[ei h1,h2]
   have hg:=HG.o;rw[RH]at hg;obtain⟨NH,Ju⟩:=JK (by rw[hg];exact HZ2);rw[Ju]at hg;have VQ:=ae NH;have OJ:=ae hg;have qo:e.A.nx<=100000000000:=by have:=Y.o.1;omega
   have sr:e.A.mv<=100000000000:=by have:=Y.o.2;omega
   have i1:(j:Int)<(k:Int):=by omega
   clear RH hg NH Ju
   go_upto_region 10 with fail
   refine aw (λu4 N5 k4=>?_)
   go_wp2_with (first|(go_at_call 54;refine mv G6 λu5 _=>?_)|(go_at_call 55;refine(aaq (p:=p) HB Z hJl HI (z.o.at (w':=u5)) VQ hn qo sr).mono ?_;rintro e9 u9 ⟨rfl,m5,e5,gs5,X5,H1,H2,H3,H4⟩))
   go_roundw
   .exact⟨j+1,_,m5,e5,gs5,X5,om,by go_num,H1,H2,OJ,ae ⟨by have:=H3.o.1;have:=Y.o.1;omega,by have:=H3.o.2;have:=Y.o.2;omega⟩,H4⟩
   .simp[intOf];omega
  .obtain rfl:j=k:=om;have hG:=HG.o;rw[ey (by rw[<-DD.o];exact an _),fF]at hG;have hw:mc (cX N (cap:Int)) s=true:=by have:=HZ3.o;rw[<-hG]at this;exact this
   obtain⟨f1,f2,f3⟩:=HI.o.whole Z hw;have Jy:Hx (e.lo=uJ N P x):=f1;have N7:=ae f2;have RE:=ae f3;have HHI:Hx ((e.A.hi:Int)<=(cap:Int)):=ae (by have:=HI.o.mb.ar.hi;have:=HI.o.cap;omega);clear hG hw f1 f2 f3;obtain⟨wx,rfl⟩:=lg wr;have c8:Cl wx g 8 (.pointer r):=z.o.ms.cl z.o.cs.c8;have c17:Cl wx g 17 (.int .i64 e.lo):=z.o.ms.cl z.o.lo;have c18:Cl wx g 18 (.slice GB J.np J.np):=z.o.ms.cl z.o.gr;have c19:Cl wx g 19 (.slice X.A X.zs.length X.c):=z.o.ms.cl z.o.x0;have c20:Cl wx g 20 (.slice X.B X.xs.length X.d):=z.o.ms.cl z.o.x1;have cs1:Cl wx sb 1 P2:=⟨(k3.al.at (w':=wx)).cell 1⟩
   go_upto_region 16 with fail
   refine aR w (λw9=>Cl w9 g 8 (.pointer r)/\Cl w9 g 17 (.int .i64 e.lo)/\Cl w9 g 18 (.slice GB J.np J.np)/\Cl w9 g 19 (.slice X.A X.zs.length X.c)/\Cl w9 g 20 (.slice X.B X.xs.length X.d)/\Cl w9 sb 1 P2) aq ⟨ao,ao,ao,ao,ao,ao⟩ (λy _=>?_);refine bN (i:=0) (d:=48) (v:=?_) rfl rfl aq aq aq (λ_ _ _ h=>h) aq ⟨aK,⟨ao,ao,ao,ao,ao,ao⟩⟩ ?_ ?_;rotate_left
   .rintro D ⟨F,r1,r2,G,I,Q,S⟩;go_simp
    try(with_reducible rfl)
   try simp only[List.set]
   refine bN (i:=1) (d:=49) (v:=?_) rfl rfl aq aq aq (λ_ _ _ h=>h) aq ⟨aK,⟨ao,ao,ao,ao,ao,ao⟩⟩ ?_ ?_;rotate_left
   .rintro D ⟨F,r1,r2,G,I,Q,S⟩;go_simp
    try(with_reducible rfl)
   try simp only[List.set]
   refine bN (i:=2) (d:=50) (v:=?_) rfl rfl aq aq aq (λ_ _ _ h=>h) aq ⟨aK,⟨ao,ao,ao,ao,ao,ao⟩⟩ ?_ ?_;rotate_left
   .rintro D ⟨F,r1,r2,G,I,Q,S⟩;go_simp
    try(with_reducible rfl)
   try simp only[List.set]
   refine bN (i:=3) (d:=51) (v:=?_) rfl rfl aq aq aq (λ_ _ _ h=>h) aq ⟨aK,⟨ao,ao,ao,ao,ao,ao⟩⟩ ?_ ?_;rotate_left
   .rintro D ⟨F,r1,r2,G,I,Q,S⟩;go_simp
    try(with_reducible rfl)
   try simp only[List.set]
   refine bN (i:=4) (d:=52) (v:=?_) rfl rfl aq aq aq (λ_ _ _ h=>h) aq ⟨aK,⟨ao,ao,ao,ao,ao,ao⟩⟩ ?_ ?_;rotate_left
   .rintro D ⟨F,r1,r2,G,I,Q,S⟩;go_simp
    try(with_reducible rfl)
   try simp only[List.set]
   refine bN (i:=5) (d:=53) (v:=?_) rfl rfl aq aq aq (λ_ _ _ h=>h) aq ⟨aK,⟨ao,ao,ao,ao,ao,ao⟩⟩ ?_ ?_;rotate_left
   .rintro D ⟨F,r1,r2,G,I,Q,S⟩;go_simp
    try(with_reducible rfl)
   try simp only[List.set]
   refine bN (i:=6) (d:=54) (v:=?_) rfl rfl aq aq aq (λ_ _ _ h=>h) aq ⟨aK,⟨ao,ao,ao,ao,ao,ao⟩⟩ ?_ ?_;rotate_left
   .rintro D ⟨F,r1,r2,G,I,Q,S⟩;go_simp
    try(with_reducible rfl)
   try simp only[List.set]
   refine bN (i:=7) (d:=55) (v:=?_) rfl rfl aq aq aq (λ_ _ _ h=>h) aq ⟨aK,⟨ao,ao,ao,ao,ao,ao⟩⟩ ?_ ?_;rotate_left
   .rintro D ⟨F,r1,r2,G,I,Q,S⟩;go_simp
    try(with_reducible rfl)
   try simp only[List.set]
   refine bN (i:=9) (d:=57) (v:=?_) rfl rfl aq aq aq (λ_ _ _ h=>h) aq ⟨aK,⟨ao,ao,ao,ao,ao,ao⟩⟩ ?_ ?_;rotate_left
   .rintro D ⟨F,r1,r2,G,I,Q,S⟩;go_simp
    try(with_reducible rfl)
   try simp only[List.set]
   refine bN (i:=10) (d:=58) (v:=?_) rfl rfl aq aq aq (λ_ _ _ h=>h) aq ⟨aK,⟨ao,ao,ao,ao,ao,ao⟩⟩ ?_ ?_;rotate_left
   .rintro D ⟨F,r1,r2,G,I,Q,S⟩;go_simp
    try(with_reducible rfl)
   try simp only[List.set]
   refine bN (i:=11) (d:=59) (v:=?_) rfl rfl aq aq aq (λ_ _ _ h=>h) aq ⟨aK,⟨ao,ao,ao,ao,ao,ao⟩⟩ ?_ ?_;rotate_left
   .rintro D ⟨F,r1,r2,G,I,Q,S⟩;go_simp
    try(with_reducible rfl)
   try simp only[List.set]
   refine bN (i:=12) (d:=60) (v:=?_) rfl rfl aq aq aq (λ_ _ _ h=>h) aq ⟨aK,⟨ao,ao,ao,ao,ao,ao⟩⟩ ?_ ?_;rotate_left
   .rintro D ⟨F,r1,r2,G,I,Q,S⟩;go_simp
    try(with_reducible rfl)
   try simp only[List.set]
   refine bN (i:=14) (d:=62) (v:=?_) rfl rfl aq aq aq (λ_ _ _ h=>h) aq ⟨aK,⟨ao,ao,ao,ao,ao,ao⟩⟩ ?_ ?_;rotate_left
   .rintro D ⟨F,r1,r2,G,I,Q,S⟩;go_simp
    try(with_reducible rfl)
   try simp only[List.set]
   refine bN (i:=15) (d:=63) (v:=?_) rfl rfl aq aq aq (λ_ _ _ h=>h) aq ⟨aK,⟨ao,ao,ao,ao,ao,ao⟩⟩ ?_ ?_;rotate_left
   .rintro D ⟨F,r1,r2,G,I,Q,S⟩;go_simp
    try(with_reducible rfl)
   try simp only[List.set]
   refine bN (i:=16) (d:=64) (v:=?_) rfl rfl aq aq aq (λ_ _ _ h=>h) aq ⟨aK,⟨ao,ao,ao,ao,ao,ao⟩⟩ ?_ ?_;rotate_left
   .rintro D ⟨F,r1,r2,G,I,Q,S⟩;go_simp
    try(with_reducible rfl)
   try simp only[List.set]
   refine bN (i:=17) (d:=65) (v:=?_) rfl rfl aq aq aq (λ_ _ _ h=>h) aq ⟨aK,⟨ao,ao,ao,ao,ao,ao⟩⟩ ?_ ?_;rotate_left
   .rintro D ⟨F,r1,r2,G,I,Q,S⟩;go_simp
    try(with_reducible rfl)
   try simp only[List.set]
   refine bN (i:=19) (d:=67) (v:=?_) rfl rfl aq aq aq (λ_ _ _ h=>h) aq ⟨aK,⟨ao,ao,ao,ao,ao,ao⟩⟩ ?_ ?_;rotate_left
   .rintro D ⟨F,r1,r2,G,I,Q,S⟩;go_simp
    try(with_reducible rfl)
   try simp only[List.set]
   refine bN (i:=20) (d:=68) (v:=?_) rfl rfl aq aq aq (λ_ _ _ h=>h) aq ⟨aK,⟨ao,ao,ao,ao,ao,ao⟩⟩ ?_ ?_;rotate_left
   .rintro D ⟨F,r1,r2,G,I,Q,S⟩;go_simp
    try(with_reducible rfl)
   try simp only[List.set]
   refine aM 8 λK hK=>?_;go_simp
   (with_reducible refine(Py (z.o.at (w':=y)).ms.ar).mono ?_)
   rintro e y ⟨rfl,_⟩;dsimp only;refine aL hK ?_ ⟨ab w _,⟨ao,ao,ao,ao,ao,ao⟩⟩;refine aM 13 λK hK=>?_;go_simp
   (with_reducible refine(Pz (z.o.at (w':=y)).ms.ar).mono ?_)
   rintro e y ⟨rfl,_⟩;dsimp only;refine aL hK ?_ ⟨ab w _,⟨ao,ao,ao,ao,ao,ao⟩⟩;refine aM 18 λK hK=>?_;go_simp
   (with_reducible refine(L3 (z.o.at (w':=y)).ms.ar).mono ?_)
   rintro e y ⟨rfl,_⟩;dsimp only;refine aL hK ?_ ⟨ab w _,⟨ao,ao,ao,ao,ao,ao⟩⟩;refine bN (i:=21) (d:=69) (v:=?_) rfl rfl aq aq aq (λ_ _ _ h=>h) aq ⟨aK,⟨ao,ao,ao,ao,ao,ao⟩⟩ ?_ ?_;rotate_left
   .rintro D ⟨F,r1,r2,G,I,Q,S⟩;go_simp
    try(with_reducible rfl)
   try simp only[List.set]
   refine aM 22 λK hK=>?_;go_simp;obtain⟨u8,T⟩:=lg ((((((((y.setCell (w.1.size+1,0) (.int .i64 e.lo)).setCell (w.1.size+1,1) (.slice GB J.np J.np)).setCell (w.1.size+1,2) (.slice X.A X.zs.length X.c)).setCell (w.1.size+1,3) (.slice X.B X.xs.length X.d)).setCell (w.1.size+1,4) (e.A.pe:Int)).setCell (w.1.size+1,5) (e.A.hi:Int)).setCell (w.1.size+1,6) (e.A.mv:Int)).setCell (w.1.size+1,7) P2);rw[<-T];have HT:Hx (Ts u8 GB J.np gs/\TE u8 X):=ae ((z.o.at (w':=y)).o Oe (by rw[T];exact kf8));have RI:aj u8 w:=by rw[T];exact JL (b9 _)
   have K8:Bx u8 (w.1.size+1) 69 _:=⟨by rw[T];exact((((((((Bx.al (w:=y) (g:=w.1.size+1)).ax 0 _).ax 1 _).ax 2 _).ax 3 _).ax 4 _).ax 5 _).ax 6 _).ax 7 _⟩;have S8:∀b,b<y.1.size->b≠w.1.size+1->u8.heap[b]?=y.heap[b]?:=(by rw[T];exact kf8:Kf (λb=>b=w.1.size+1) (λb=>b=w.1.size+1) y u8).keep;have V:u8.heap[g]?=y.heap[g]?:=S8 g (z.o.at (w':=y)).ms.old.lt (by have:=Oe.o;have:=z.o.D2.2.2.1;omega);have hs8:u8.heap[sb]?=y.heap[sb]?:=S8 sb (bu k3.al.lt ai) (by have:=Js.o;omega);clear T S8;have e8:Cl u8 g 8 _:=⟨(dY V).trans (Cl.eq (w:=y))⟩;have e17:Cl u8 g 17 _:=⟨(dY V).trans (Cl.eq (w:=y))⟩;have e18:Cl u8 g 18 _:=⟨(dY V).trans (Cl.eq (w:=y))⟩;have e19:Cl u8 g 19 _:=⟨(dY V).trans (Cl.eq (w:=y))⟩;have e20:Cl u8 g 20 _:=⟨(dY V).trans (Cl.eq (w:=y))⟩;have e21:Cl u8 sb 1 _:=⟨(dY hs8).trans (Cl.eq (w:=y))⟩;refine aL hK ?_ ⟨RI,e8,e17,e18,e19,e20,e21⟩;refine bN (i:=23) (d:=5) (v:=?_) rfl rfl aq aq aq (λ_ _ _ h=>h) aq ⟨aK,⟨ao,ao,ao,ao,ao,ao⟩⟩ ?_ ?_;rotate_left
   .rintro D ⟨F,r1,r2,G,I,Q,S⟩;go_simp
    try(with_reducible rfl)
   try simp only[List.set]
   refine aZ ?_
   go_wp2_with fail
   obtain⟨t1,t2⟩:=HT.o;refine a8 (v:=.tuple #[.agg #[.int .i64 (uJ N P x),(GB,np,np),.slice X.A X.zs.length X.c,.slice X.B X.xs.length X.d,e.A.pe,e.A.hi,e.A.mv,P2],au]) ?_ rfl ⟨_,_,gs,X,_,_,_,rfl,by rw[<-HJN.o];exact t1,by rw[z.o.gv,N7.o],t2,by rw[z.o.xv,RE.o],HHI,RI⟩;rw[b8 rfl];go_simp;rw[Jy.o,HJN.o];exact⟨rfl,rfl⟩
end
variable{X:World}{T T2:TypeId}{c3 c4:Array Value}{b1 b2 b3 b4:Nat}
def OL{Q:World->Prop}{T0 j l b m y z:TypeId}{c0 c1 c2 e r c7 c8:Array Value}
  (h:∀u,aj u X->Bx u X T0 c0->Bx u (X.heap.size+1) T c1->Bx u (X.heap.size+1+1) T2 c2->Bx u (X.heap.size+1+1+1) j c3->Bx u (X.heap.size+1+1+1+1) l c4->Bx u (X.heap.size+1+1+1+1+1) b e->Bx u (X.heap.size+1+1+1+1+1+1) m r->Bx u (X.heap.size+1+1+1+1+1+1+1) y c7->Bx u (X.heap.size+1+1+1+1+1+1+1+1) z c8->Q u):
  Q (((((((((X.alloc (.cells c0 T0)).alloc (.cells c1 T)).alloc (.cells c2 T2)).alloc (.cells c3 j)).alloc (.cells c4 l)).alloc (.cells e b)).alloc (.cells r m)).alloc (.cells c7 y)).alloc (.cells c8 z)):=by
 have B:Bx ((((((X.alloc (.cells c0 T0)).alloc (.cells c1 T)).alloc (.cells c2 T2)).alloc (.cells c3 j)).alloc (.cells c4 l)).alloc (.cells e b)) (X.heap.size+1+1+1+1+1) b e:=⟨aB.fx _ _ _ aG⟩;have i6:Bx (((((((X.alloc (.cells c0 T0)).alloc (.cells c1 T)).alloc (.cells c2 T2)).alloc (.cells c3 j)).alloc (.cells c4 l)).alloc (.cells e b)).alloc (.cells r m)) (X.heap.size+1+1+1+1+1+1) m r:=⟨aB.fx _ _ _ aG⟩;have C:Bx ((((((((X.alloc (.cells c0 T0)).alloc (.cells c1 T)).alloc (.cells c2 T2)).alloc (.cells c3 j)).alloc (.cells c4 l)).alloc (.cells e b)).alloc (.cells r m)).alloc (.cells c7 y)) (X.heap.size+1+1+1+1+1+1+1) y c7:=⟨aB.fx _ _ _ aG⟩;have i8:Bx (((((((((X.alloc (.cells c0 T0)).alloc (.cells c1 T)).alloc (.cells c2 T2)).alloc (.cells c3 j)).alloc (.cells c4 l)).alloc (.cells e b)).alloc (.cells r m)).alloc (.cells c7 y)).alloc (.cells c8 z)) (X.heap.size+1+1+1+1+1+1+1+1) z c8:=⟨aB.fx _ _ _ aG⟩;exact h _ (ab _ _) ao ao ao ao ao ao ao ao ao
section
variable{w:World}{b5 b6 b7:Nat}
theorem Wy(k0:Bx u R 3 #[(2:Int)])(k1:Bx u b1 3 #[au])(k2:Bx u b2 3 #[(2:Int),(2:Int)])(k3:Bx u b3 3 #[(2:Int)])(k4:Bx u b4 25 #[.slice b2 2 2,.slice b3 1 1])(r:Bx u b5 3 #[(1:Int),(1:Int)])(k6:Bx u b6 3 #[(2:Int)])
  (e:Bx u b7 84 #[(8:Int),au,au,au,au,au,au,.slice none 0 0,.slice b1 1 1,.slice b4 2 2,(7:Int),au,au,au,au,au,au,.slice none 0 0,.slice b5 2 2,.slice none 0 0,(12:Int),au,(2:Int),(1:Int),au,au,au,.slice none 0 0,.slice b6 1 1,.slice none 0 0]):
  aQ u (some ⟨R,0,none⟩) 1 (some ⟨b7,0,none⟩) 3 fq:=by
 have hs:du u (some ⟨b4,0,none⟩) 2 [⟨some ⟨b2,0,none⟩,2,2,[2,2]⟩,⟨some ⟨b3,0,none⟩,1,1,[2]⟩]:=⟨λj x b=>by
  rcases j with _|_|j
  .obtain rfl:=cn b;exact⟨b4,0,rfl,k4.al.lt,k4.al.cell 0,(Sl.Ky (h:=k2)).rd,rfl,an _⟩
  .obtain rfl:=cn b;exact⟨b4,0,rfl,k4.al.lt,k4.al.cell 1,(Sl.wO (h:=k3)).rd,rfl,an _⟩
  .simp at b,rfl⟩
 have m:du u none 0 []:=⟨λj x b=>by simp at b,rfl⟩;refine⟨Sl.wO (h:=k0),⟨[⟨⟨8,0,0,0,0,0,0,[]⟩,none,0,0,some ⟨b1,0,none⟩,1,1,[0],some ⟨b4,0,none⟩,2,2,[⟨some ⟨b2,0,none⟩,2,2,[2,2]⟩,⟨some ⟨b3,0,none⟩,1,1,[2]⟩]⟩,⟨⟨7,0,0,0,0,0,0,[]⟩,none,0,0,some ⟨b5,0,none⟩,2,2,[1,1],none,0,0,[]⟩,⟨⟨12,0,2,1,0,0,0,[]⟩,none,0,0,some ⟨b6,0,none⟩,1,1,[2],none,0,0,[]⟩],λj x b=>?_,rfl⟩,rfl⟩;have l:bo 0:=⟨ak,ak⟩;rcases j with _|_|_|j
 .obtain rfl:=cn b;refine⟨b7,0,rfl,e.al.lt,λj v b=>?_,Sl.empty,Sl.wO (h:=k1),hs,an _,an _,an _,l⟩;rcases j with _|_|_|_|_|_|_|_|_|_|j<;>first|(exact(e.al.cell _).trans b)|simp[Ng]at b
 .obtain rfl:=cn b;refine⟨b7,0,rfl,e.al.lt,λj v b=>?_,Sl.empty,Sl.Ky (h:=r),m,an _,an _,an _,l⟩;rcases j with _|_|_|_|_|_|_|_|_|_|j<;>first|(exact(e.al.cell _).trans b)|simp[Ng]at b
 .obtain rfl:=cn b;refine⟨b7,0,rfl,e.al.lt,λj v b=>?_,Sl.empty,Sl.wO (h:=k6),m,an _,an _,an _,l⟩;rcases j with _|_|_|_|_|_|_|_|_|_|j<;>first|(exact(e.al.cell _).trans b)|simp[Ng]at b
 .simp at b
def zk:() 8 #[] w (aD w (.bool true)):=by
 obtain⟨CB,CP,FB⟩:=ha;go_enter func8,ntmps8
 go_upto_region 2 with fail
 refine OL (λu0 p0 k0 k1 k2 k3 k4 k5 k6 k7 k8=>?_);have a0:=Wy k0 k1 k2 k3 k4 k5 k6 k7;have l:Hx fq.fits:=ae S6;have r:Hx fq.small:=ae OG;have b:Hx (a6 fq=0):=ae zf;have F1:∀W:World,() 26 #[(1:Int)] W (λe w'=>e=.returned (.int .i64 4294967296)/\W=w'):=λW=>mL 1 W;have F2:∀W:World,() 26 #[(2:Int)] W (λe w'=>e=.returned (.int .i64 8589934592)/\W=w'):=λW=>mL 2 W;have F3:∀W:World,() 26 #[(3:Int)] W (λe w'=>e=.returned (.int .i64 12884901888)/\W=w'):=λW=>mL 3 W;have F4:∀W:World,() 26 #[(4:Int)] W (λe w'=>e=.returned (.int .i64 17179869184)/\W=w'):=λW=>mL 4 W;have F5:∀W:World,() 26 #[.int .i64 (-1)] W (λe w'=>e=.returned (.int .i64 (-4294967296))/\W=w'):=λW=>mL (-1) W;have f1:=ae F1;have f2:=ae F2;have f3:=ae F3;have f4:=ae F4;have f5:=ae F5;clear F1 F2 F3 F4 F5;have i1:dp [4294967296,8589934592,12884901888,17179869184]:=⟨by unfold bo;decide⟩;have i2:dp [0,4294967296]:=⟨by unfold bo;decide⟩
 go_upto_region 3 with(first|(go_at_call 26;first|((with_reducible refine(f1.o _).mono ?_);rintro e z ⟨rfl,rfl⟩)|((with_reducible refine(f2.o _).mono ?_);rintro e z ⟨rfl,rfl⟩)|((with_reducible refine(f3.o _).mono ?_);rintro e z ⟨rfl,rfl⟩)|((with_reducible refine(f4.o _).mono ?_);rintro e z ⟨rfl,rfl⟩))|(go_at_call 25;refine(wv (zs:=[2,2]) (xs:=[4294967296,8589934592,12884901888,17179869184]) om om (by decide+kernel)).mono ?_;rintro e u1 ⟨A1,c1,B1,d1,rfl,sA1,RQ,M,lX1,fA1,fX1,su⟩))
 refine aw (λv1 pv1 kw=>?_)
 go_upto_region 4 with(first|(go_at_call 26;refine(f1.o _).mono ?_;rintro e z ⟨rfl,rfl⟩)|(go_at_call 25;refine(wv (zs:=[2]) (xs:=[0,4294967296]) om om (by decide+kernel)).mono ?_;rintro e u2 ⟨A2,c2,B2,d2,rfl,sA2,sX2,N,lX2,fA2,fX2,q8⟩))
 refine aw (λv2 M6 kb=>?_)
 go_upto_region 5 with(first|(go_at_call 26;first|((with_reducible refine(f1.o _).mono ?_);rintro e z ⟨rfl,rfl⟩)|((with_reducible refine(f5.o _).mono ?_);rintro e z ⟨rfl,rfl⟩))|(go_at_call 25;refine(wv (zs:=[2]) (xs:=[4294967296,-4294967296]) om om (by decide+kernel)).mono ?_;rintro e u3 ⟨A3,c3,B3,d3,rfl,sA3,sX3,O,P,fA3,fX3,Sm⟩))
 refine aw (λv3 pv3 kx=>?_);obtain⟨y,Q⟩:=lh s6.length;have S:y<=65536:=by rw[<-Q];decide
 have L:=ae Q;clear Q;have M1:∀(u:World) (A B:Option Addr) (n m c d:Nat) [aQ u A n B m fq],m<=12->() 17 #[.agg #[.slice A n c,.slice B m d],(1:Int),(100:Int)] u (lw u 1 s6 7 8 0 7 0):=λu A B n m c d _ j=>
  s4 l r ak (ae λu _=>za l r j (ae S7.1) (ae S7.2)) ak b (ae rfl) (ae mj.1) (ae mj.2)
 have M2:∀(u:World) (A B:Option Addr) (n m c d:Nat) [aQ u A n B m fq],m<=12->() 17 #[.agg #[.slice A n c,.slice B m d],(2:Int),(100:Int)] u (lw u 2 s6 7 8 0 7 0):=λu A B n m c d _ j=>
  s4 l r ak (ae λu _=>zb l r b j (ae S8.1) (ae S8.2)) ak b (ae rfl) (ae mj.1) (ae mj.2)
 have M3:∀(u:World) (A B:Option Addr) (n m c d:Nat) [aQ u A n B m fq],m<=12->() 17 #[.agg #[.slice A n c,.slice B m d],(3:Int),(100:Int)] u (lw u 3 s6 7 8 0 7 0):=λu A B n m c d _ _=>
  s4 l r ak (ae λu _=>zc l r b (ae S9.1) (ae S9.2)) ak b (ae rfl) (ae mj.1) (ae mj.2)
 have M4:∀(u:World) (A B:Option Addr) (n m c d:Nat) [aQ u A n B m fq],() 17 #[.agg #[.slice A n c,.slice B m d],(4:Int),(100:Int)] u (aD u (zd 27)):=λu A B n m c d _=>
  s5 l r (ae λu _=>Au l r (ae aam) ak) b ak
 have C:∀(u:World) (A B:Option Addr) (n m c d:Nat) [aQ u A n B m fq],m<=12->() 27 #[.agg #[.slice A n c,.slice B m d],(100:Int)] u (lw u 1 s6 7 8 0 7 0):=λu A B n m c d _ j=>
  OH l r b (ae λu _=>M1 u A B n m c d j) (ae λu _=>M2 u A B n m c d j) ak (ae λu _=>M3 u A B n m c d j) ak (ae λu _=>M4 u A B n m c d) ak L L
 have D:=ae C;clear M1 M2 M3 M4 C
 go_upto_region 6 with(go_at_call 27;refine(D.o _ _ _ _ _ _ _ om).mono ?_;rintro e u4 ⟨AC,cC,rfl,oC,N5⟩;rw[L.o])
 refine aw (λv4 pv4 kp=>?_);have iC:Is v4 AC y s6:=⟨(bM.at (w':=v4) oC).rd,L.o.symm⟩;have HC:Hx (gn fq [1,2,3] [[2],[2],[2],[1]] 3 ze vF):=ae Wk;have U:Hx (j9 fq ((100:Nat):Int) s6=0):=ae mj.1;have V:Hx (oO fq ((100:Nat):Int) s6=(7,8,0,7)):=ae mj.2;have E:∀(u:World) (A B PA XA XB K:Option Addr) (n m c d np cp nx cx mx dx kc:Nat) (ps:List Tn) [aQ u A n B m fq] [Ts u PA np ps] [Sl u XA nx vF.1] [Sl u XB mx vF.2] [Is u K y s6],ps.map Tn.tv=ze->fo ps->np<=1000000->nx<=cx->mx<=dx->np<=cp->m<=d->
   () 19 #[.agg #[.slice A n c,.slice B m d,.slice PA np cp,.slice XA nx cx,.slice XB mx dx,.slice K y kc,(100:Int)],.chan none] u (Lz u fq ze vF 100 np 8):=λu A B PA XA XB K n m c d np cp nx cx mx dx kc ps _ _ _ _ _ h1 h2 h3 h4 h5 Y Z=>
  Wx (cap:=100) l r HC (ae h1) (ae h2) h3 h4 h5 Y Z S ak ak U V
 have F:=ae E;have sx3:Sl v4 A3 1 vF.1:=(ao:Sl v4 A3 1 [2]);have sy3:Sl v4 B3 2 vF.2:=(ao:Sl v4 B3 2 [4294967296,-4294967296]);have HU:Hx (([⟨A1,c1,[2,2],B1,d1,[4294967296,8589934592,12884901888,17179869184]⟩,⟨A2,c2,[2],B2,d2,[0,4294967296]⟩]:List Tn).map Tn.tv=ze):=ae rfl;have pg:Hx (fo [⟨A1,c1,[2,2],B1,d1,[4294967296,8589934592,12884901888,17179869184]⟩,⟨A2,c2,[2],B2,d2,[0,4294967296]⟩]):=ae λt ht=>by
  simp only[bT,kG,lN]at ht;rcases ht with rfl|rfl
  .exact⟨show aJ [2,2] [4294967296,8589934592,12884901888,17179869184]=true from by decide+kernel,M.le⟩
  .exact⟨show aJ [2] [0,4294967296]=true from by decide+kernel,N.le⟩
 have hx3:1<=c3:=O.le;have hy3:2<=d3:=P.le;clear E
 go_upto_region 7 with(go_at_call 19;refine(F.o _ _ _ _ _ _ _ _ _ _ _ _ _ _ _ _ _ _ _ HU.o pg.o om hx3 hy3 om om).mono ?_;rintro e u6 ⟨AG,cG,gs,X,pk,hi,mv,rfl,tG,hG,-,-,-,pu6⟩;rw[abD])
 obtain⟨tg0,z0,G⟩:=abE;rw[G]at hG;obtain⟨bg,og,Ag,cg,zg,Bg,dg,xg,rfl,obg,cg0,cg1,sg1,sg2,-,-,I⟩:=tG.get (k:=1) om;have hxg:zg=[2]/\xg=[-4294967296,z0]:=by
  have h9:(gs.map Tn.tv)[1]?=some (zg,xg):=by rw[bj,I.o];rfl
  rw[hG]at h9;have h8:(([2],[-4294967296,z0]):TV)=(zg,xg):=cn h9;injection h8 with Y Z
  exact⟨Y.symm,Z.symm⟩
 obtain⟨rfl,rfl⟩:=hxg;obtain⟨bh,oh,zh,rfl,obh,ch0,J⟩:=sg2.get (k:=0) aG;obtain rfl:(-4294967296:Int)=zh:=cn J.o;rw[gE]at ch0;have G1:Hx (∀W:World,() 26 #[(1:Int)] W (aD W (.int .i64 4294967296))):=ae λW=>(f1.o W).mono λ_ w' ⟨h,e⟩=>⟨h,by rw[e];exact⟨aY _ _⟩⟩;have G5:Hx (∀W:World,() 26 #[.int .i64 (-1)] W (aD W (.int .i64 (-4294967296)))):=ae λW=>(f5.o W).mono λ_ w' ⟨h,e⟩=>⟨h,by rw[e];exact⟨aY _ _⟩⟩;clear hG G I J tG;refine aw (λv6 pv6 ko=>?_);have hw9:IntKind.i64.wrap 2147483648=2147483648:=by rw[aV];omega
 go_upto_region 7 with fail
 refine aH v6 aq (λux _=>?_);refine ap 0 ?_;refine ap 1 ?_;refine ap 2 ?_;refine ap 3 ?_;refine ap 4 ?_;refine ap 5 ?_;refine ap 6 ?_;refine ap 7 ?_;refine ap 8 ?_;refine ap 9 ?_;refine aM 10 λK hK=>?_;go_simp
 (with_reducible refine(G1.o _).mono ?_)
 rintro e ux ⟨rfl,_⟩;dsimp only;refine aL hK ?_;clear hK K;refine ap 11 ?_;refine ap 12 ?_;refine ap 13 ?_;refine ap 14 ?_;refine ap 15 ?_;refine ap 16 ?_;refine ap 17 ?_;refine ap 18 ?_;refine ap 19 ?_;refine ap 20 ?_;refine ap 21 ?_;refine ap 22 ?_;refine ap 23 ?_;refine ap 24 ?_;refine ap 25 ?_;refine ap 26 ?_;refine ap 27 ?_;refine ap 28 ?_;refine ap 29 ?_;refine ap 30 ?_;refine ap 31 ?_;refine ap 32 ?_;refine ap 33 ?_;refine ap 34 ?_;refine ap 35 ?_;refine ap 36 ?_;refine ap 37 ?_;refine ap 38 ?_;refine ap 39 ?_;refine aM 40 λK hK=>?_;go_simp
 (with_reducible refine(G5.o _).mono ?_)
 rintro e ux ⟨rfl,_⟩;dsimp only;refine aL hK ?_;clear hK K;refine ap 41 ?_;refine ap 42 ?_;refine ap 43 ?_;refine aZ ?_
 go_wp2_with fail
 go_ret;exact⟨rfl,ab w _⟩
end
variable{x:Int}
structure Ch where
 W:List Int
 K:List Int
def Ch.n(c:Ch):Nat:=c.K.length
def Ch.w(c:Ch)(i:Nat):Int:=c.W.getD i 0
def Ch.k(c:Ch)(i:Nat):Int:=c.K.getD i 0
def Ch.kept(c:Ch)(l:Nat):Int:=if l=0 then 0 else c.w l
def Ch.single(c:Ch)(l r:Nat):Int:=c.w r+c.kept l
def Ch.own(c:Ch)(r:Nat):Int:=if r=c.n then c.k (r-1)else 0
def Ch.step(c:Ch)(l r k:Nat):Int:=c.w k+(if k-1=l then 0 else c.w (k-1))+(if r=c.n then 0 else c.w r)
def Ch.nd(c:Ch)(l r:Nat):Nat->Int
 |0=>0
 |j+1=>max (c.nd l r j) (c.step l r (l+j+1))
def Ch.cs(c:Ch)(l:Nat):Nat->Int
 |0=>0
 |j+1=>c.cs l j+c.k (l+j)
def Ch.pv(c:Ch)(V:Nat->Nat->Int->Int)(l r:Nat)(m:Int):Nat->Int
 |0=>1152921504606846976
 |j+1=>if c.nd l r (j+1)<=m then min (c.pv V l r m j) (c.cs l (j+1)+V (l+j+1) r (m-c.w (l+j+1))+V l (l+j+1) m)else c.pv V l r m j
def Ch.val(c:Ch):Nat->Nat->Nat->Int->Int
 |0,_,_,_=>1152921504606846976
 |d+1,l,r,m=>if r=l+1 then(if c.single l r<=m then c.own r else 1152921504606846976)else c.pv (c.val d) l r m (r-l-1)
def Ch.V(c:Ch)(l r:Nat)(m:Int):Int:=c.val (r-l) l r m
structure Ch.Ok(c:Ch):Prop where
 n1:1<=c.n
 n2:c.n<=64
 len:c.W.length=c.n+1
 w1:∀z∈c.W,1<=z
 w2:∀z∈c.W,z<=65536
 k1:∀z∈c.K,0<=z
 k2:∀z∈c.K,z<=1099511627776
variable{c:Ch}
def Ch.acU{V b:Nat->Nat->Int->Int}{l r:Nat}{m:Int}:∀j,(∀i,i<j->∀x,V (l+i+1) r x=b (l+i+1) r x/\V l (l+i+1) x=b l (l+i+1) x)->c.pv V l r m j=c.pv b l r m j
 |0,_=>rfl
 |j+1,h=>by
  have u:=acU (m:=m) j λi hi=>h i om;have e:=h j om;simp only[pv];rw[u,(e _).1,(e _).2]
def Ch.ac2:∀(d d' l r:Nat) (m:Int),l<r->r-l<=d->r-l<=d'->c.val d l r m=c.val d' l r m
 |0,_,l,r,m,h,h1,_=>om
 |_+1,0,l,r,m,h,_,h2=>om
 |d+1,d'+1,l,r,m,h,h1,h2=>by
  simp only[val]
  split
  .rfl
  .exact acU _ λi hi x=>⟨ac2 d d' _ _ x om om om,ac2 d d' _ _ x om om om⟩
def Ch.ac5{m:Int}(h:l<r)(hd:r-l<=d):c.val d l r m=c.V l r m:=ac2 _ _ _ _ _ h hd (an _)
def Ch.TJ{m:Int}:c.V l (l+1) m=if c.single l (l+1)<=m then c.own (l+1)else 1152921504606846976:=by
 rw[V,show l+1-l=0+1 from om,val,ah rfl]
def Ch.LC{m:Int}(h:l+1<r):c.V l r m=c.pv c.V l r m (r-l-1):=by
 rw[V,show r-l=(r-l-1)+1 from om,val,ag om];exact acU _ λi hi x=>⟨ac5 om om,ac5 om om⟩
def Ch.Ok.OM(h:c.Ok)(i:Nat):c.w i<=65536:=by
 rw[w,aX];rcases hi:c.W[i]? with _|z
 .simp
 .exact h.w2 _ (aC hi)
def Ch.Ok.G9(h:c.Ok)(i:Nat):0<=c.w i:=by
 rw[w,aX];rcases hi:c.W[i]? with _|z
 .simp
 .have:=h.w1 _ (aC hi);simp;omega
def Ch.Ok.k_0(h:c.Ok)(i:Nat):0<=c.k i:=by
 rw[k,aX];rcases hi:c.K[i]? with _|z
 .simp
 .exact h.k1 _ (aC hi)
def Ch.Ok.k_2(h:c.Ok)(i:Nat):c.k i<=1099511627776:=by
 rw[k,aX];rcases hi:c.K[i]? with _|z
 .simp
 .exact h.k2 _ (aC hi)
def Ch.Ok.oB(h:c.Ok)(l:Nat):0<=c.kept l:=by
 unfold kept;split
 .omega
 .exact h.G9 l
def Ch.Ok.LB(h:c.Ok)(l:Nat):c.kept l<=65536:=by
 unfold kept;split
 .omega
 .exact h.OM l
def Ch.Ok.ade(h:c.Ok)(l r k:Nat):c.w k<=c.step l r k:=by
 have a:=h.G9 (k-1);have b:=h.G9 r;unfold step;split<;>split<;>omega
def Ch.Ok.adf(h:c.Ok)(l r k:Nat):c.step l r k<=196608:=by
 have a:=h.OM (k-1);have b:=h.OM r;have d:=h.OM k;unfold step;split<;>split<;>omega
def Ch.ab3(l r:Nat):∀j,0<=c.nd l r j
 |0=>by simp[nd]
 |j+1=>by have:=ab3 l r j;simp only[nd];omega
def Ch.Ok.adj(h:c.Ok)(l r:Nat):∀j,c.nd l r j<=196608
 |0=>by simp[nd]
 |j+1=>by have:=h.adj l r j;have:=h.adf l r (l+j+1);simp only[nd];omega
def Ch.ab4(b:i<=j):c.nd l r i<=c.nd l r j:=by
 induction b with
 |refl=>exact dM _
 |step _ e=>simp only[nd];omega
def Ch.ac6:c.step l r (l+j+1)<=c.nd l r (j+1):=by simp only[nd];omega
def Ch.Ok.Xp(h:c.Ok){m:Int}(hm:c.nd l r (j+1)<=m):c.w (l+j+1)<=m:=by
 have:=h.ade l r (l+j+1);have:=ac6 (c:=c) (l:=l) (r:=r) (j:=j);omega
def Ch.Ok.Xq(h:c.Ok)(l:Nat):∀j,0<=c.cs l j
 |0=>by simp[cs]
 |j+1=>by have:=h.Xq l j;have:=h.k_0 (l+j);simp only[cs];omega
def Ch.Ok.Xr(h:c.Ok)(l:Nat):∀j:Nat,c.cs l j<=1099511627776*(j:Int)
 |0=>by simp[cs]
 |j+1=>by have:=h.Xr l j;have:=h.k_2 (l+j);simp only[cs];omega
def Ch.Mod(x:Int)(s:Nat):Prop:=x=1152921504606846976\/0<=x/\x<=70368744177664*(2*(s:Int)-1)
def Ch.Ok.ac3(h:c.Ok){V:Nat->Nat->Int->Int}{l r:Nat}{m:Int}(hr:r<=c.n)(hV:∀y u x,y<u->u-y<r-l->u<=r->Mod (V y u x) (u-y)):
  ∀j,j<=r-l-1->Mod (c.pv V l r m j) (r-l)
 |0,_=>.inl rfl
 |j+1,hj=>by
  have e:=h.ac3 (m:=m) hr hV j om;simp only[pv]
  split
  .have a:=hV (l+j+1) r (m-c.w (l+j+1)) om om om;have b:=hV l (l+j+1) m om om om;have c0:=h.Xq l (j+1);have c2:=h.Xr l (j+1);have n2:=h.n2;have B:((r-(l+j+1):Nat):Int)=(r:Int)-l-j-1:=by omega
   have C:((l+j+1-l:Nat):Int)=(j:Int)+1:=by omega
   have D:((r-l:Nat):Int)=(r:Int)-l:=by omega
   unfold Mod at*;rw[B]at a;rw[C]at b;rw[D]at e⊢;have z:((j+1:Nat):Int)<=64:=om;rcases a with a|⟨G,I⟩
   .rcases b with b|⟨E,F⟩
    .rcases e with e|⟨i1,i2⟩<;>omega
    .rcases e with e|⟨i1,i2⟩<;>omega
   .rcases b with b|⟨E,F⟩
    .rcases e with e|⟨i1,i2⟩<;>omega
    .rcases e with e|⟨i1,i2⟩<;>omega
  .exact e
def Ch.Ok.ac7(h:c.Ok):∀(s l r:Nat) (m:Int),r-l<=s->l<r->r<=c.n->Mod (c.V l r m) (r-l)
 |0,l,r,m,hs,hl,_=>om
 |s+1,l,r,m,hs,hl,hr=>by
  by_cases e:r=l+1
  .subst e;rw[TJ]
   split
   .refine .inr ?_;have a:=h.k_0 l;have b:=h.k_2 l;have:((l+1-l:Nat):Int)=1:=om;rw[this];unfold own
    split
    .simp only[Nat.add_sub_cancel];omega
    .omega
   .exact .inl rfl
  .rw[LC om];exact h.ac3 hr (λj u x y z B=>h.ac7 s j u x om y om) _ (an _)
def Ch.Ok.mod(h:c.Ok){m:Int}(b:l<r)(hr:r<=c.n):Mod (c.V l r m) (r-l):=h.ac7 (r-l) l r m (an _) b hr
def Ch.Mod.lo{s:Nat}(h:Mod x s):0<=x:=by rcases h with h|h<;>omega
def Ch.Mod.hi{s:Nat}(h:Mod x s)(hs:s<=64):x<=1152921504606846976:=by rcases h with h|h<;>omega
def Ch.Mod.fin{s:Nat}(h:Mod x s)(hs:s<=64)(b:x<1152921504606846976):x<=70368744177664*127:=by rcases h with h|h<;>omega
def Ch.adk{V:Nat->Nat->Int->Int}{l r:Nat}{m e:Int}(hm:m<=e):∀j,(∀i,i<j->∀x y,x<=y->V (l+i+1) r y<=V (l+i+1) r x/\V l (l+i+1) y<=V l (l+i+1) x)->c.pv V l r e j<=c.pv V l r m j
 |0,_=>dM _
 |j+1,h=>by
  have u:=adk hm j λi hi=>h i om;have a:=(h j om (m-c.w (l+j+1)) (e-c.w (l+j+1)) om).1;have b:=(h j om m e hm).2;simp only[pv]
  split
  .split<;>omega
  .rw[ag om];exact u
def Ch.Ok.adm(h:c.Ok)(r:Nat):c.own r<=1152921504606846976:=by
 unfold own
 split
 .have:=h.k_2 (r-1);omega
 .omega
def Ch.Ok.ac4(h:c.Ok):∀(s l r:Nat) (m j:Int),r-l<=s->l<r->m<=j->c.V l r j<=c.V l r m\/c.n<r
 |0,l,r,m,j,hs,hl,_=>om
 |s+1,l,r,m,j,hs,hl,hm=>by
  by_cases hr:c.n<r
  .exact .inr hr
  .left;by_cases e:r=l+1
   .subst e;rw[TJ,TJ];by_cases u:c.single l (l+1)<=m
    .rw[ah u,ah om];exact dM _
    .rw[ag u]
     split
     .exact h.adm _
     .exact dM _
   .rw[LC om,LC om];refine adk hm _ λi hi x y b=>⟨?_,?_⟩
    .rcases h.ac4 s (l+i+1) r x y om om b with g|g
     .exact g
     .omega
    .rcases h.ac4 s l (l+i+1) x y om om b with g|g
     .exact g
     .omega
def Ch.ws(c:Ch)(l:Nat):Nat->Int
 |0=>0
 |j+1=>c.ws l j+c.w (l+j+1)
def Ch.jG(c:Ch)(l r:Nat):Int:=c.kept l+2*c.ws l (r-l)
def Ch.acY(l i:Nat):∀j,c.ws l (i+j)=c.ws l i+c.ws (l+i) j
 |0=>by simp[ws]
 |j+1=>by
  rw[<-nl,ws,acY l i j,ws,nl l i j,Int.add_assoc]
def Ch.Ok.TT(h:c.Ok)(l:Nat):∀j,0<=c.ws l j
 |0=>by simp[ws]
 |j+1=>by have:=h.TT l j;have:=h.G9 (l+j+1);simp only[ws];omega
def Ch.Ok.adg(h:c.Ok)(b:i<=j):c.ws l i<=c.ws l j:=by
 obtain⟨d,rfl⟩:=Nat.exists_eq_add_of_le b;rw[acY];have:=h.TT (l+i) d;omega
def Ch.Ok.ac8(h:c.Ok)(y:l+j+1<r):c.step l r (l+j+1)<=c.ws l (r-l):=by
 have e:r-l=(j+1)+(r-l-j-2+1):=om;have m:l+(j+1)+(r-l-j-2)+1=r:=om;rw[e,acY,ws.eq_2 c (l+(j+1)),m];have a:=h.TT (l+(j+1)) (r-l-j-2);have b:=h.G9 r;unfold step;rw[Nat.add_sub_cancel];rcases j with _|i
 .simp only[gE,ws,wj]
  split<;>omega
 .rw[ag om,ws,ws];have z:=h.TT l i;have u:l+(i+1)=l+i+1:=om;rw[u]
  split<;>omega
def Ch.Ok.ac9(h:c.Ok){l r:Nat}:∀j,l+j<r->c.nd l r j<=c.ws l (r-l)
 |0,_=>by simpa[nd]using h.TT l (r-l)
 |j+1,hj=>by
  have a:=h.ac9 (l:=l) (r:=r) j om;have b:=h.ac8 (l:=l) (r:=r) (j:=j) om;simp only[nd];omega
def Ch.Ok.acR(h:c.Ok){m:Int}(u:l+j+1<r)(hm:c.jG l r<=m):c.jG (l+j+1) r<=m-c.w (l+j+1):=by
 unfold jG at*;have e:r-l=(j+1)+(r-(l+j+1)):=om;rw[e,acY,ws,show l+(j+1)=l+j+1 from rfl]at hm;have a:=h.TT l j;have b:=h.oB l;have d:c.kept (l+j+1)=c.w (l+j+1):=by unfold kept;rw[ag om]
 rw[d];omega
def Ch.Ok.acT(h:c.Ok){m:Int}(b:l+j+1<r)(hm:c.jG l r<=m):c.jG l (l+j+1)<=m:=by
 unfold jG at*;have:=h.adg (l:=l) (i:=l+j+1-l) (j:=r-l) om;omega
def Ch.Ok.acZ(h:c.Ok){m:Int}(e:l+j<r)(hm:c.jG l r<=m):c.nd l r j<=m:=by
 have a:=h.ac9 (l:=l) (r:=r) j e;have b:=h.TT l (r-l);have d:=h.oB l;unfold jG at hm;omega
def Ch.Ok.acP(h:c.Ok){m:Int}(hm:c.jG l (l+1)<=m):c.single l (l+1)<=m:=by
 unfold jG at hm;rw[show l+1-l=0+1 from om,ws,ws,gE]at hm;have:=h.G9 (l+1);unfold single;omega
def Ch.Ok.ac0(h:c.Ok){l r:Nat}{m e:Int}(hm:c.jG l r<=m)(b:c.jG l r<=e):∀j,l+j<r->(∀i,i<j->∀x y,(c.jG (l+i+1) r<=x->c.jG (l+i+1) r<=y->c.V (l+i+1) r x=c.V (l+i+1) r y)/\(c.jG l (l+i+1)<=x->c.jG l (l+i+1)<=y->c.V l (l+i+1) x=c.V l (l+i+1) y))->
  c.pv c.V l r m j=c.pv c.V l r e j
 |0,_,_=>rfl
 |j+1,hj,hV=>by
  have u:=h.ac0 hm b j om λi hi=>hV i om;simp only[pv];rw[ah (h.acZ hj hm),ah (h.acZ hj b),u,(hV j om _ _).1 (h.acR om hm) (h.acR om b),(hV j om _ _).2 (h.acT om hm) (h.acT om b)]
def Ch.Ok.acV(h:c.Ok):∀(s l r:Nat) (m b:Int),r-l<=s->l<r->c.jG l r<=m->c.jG l r<=b->c.V l r m=c.V l r b
 |0,l,r,m,b,hs,hl,_,_=>om
 |s+1,l,r,m,b,hs,hl,hm,hm'=>by
  by_cases e:r=l+1
  .subst e;rw[TJ,TJ,ah (h.acP hm),ah (h.acP hm')]
  .rw[LC om,LC om];exact h.ac0 hm hm' _ om λi hi x y=>⟨h.acV s _ _ x y om om,h.acV s _ _ x y om om⟩
def Ch.Ok.aau(h:c.Ok){m:Int}(b:l<r):c.V l r (min m (c.jG l r))=c.V l r m:=by
 by_cases e:m<=c.jG l r
 .rw[Int.min_eq_left e]
 .rw[Int.min_eq_right om];exact h.acV (r-l) l r _ _ (an _) b (dM _) om
def Ch.nv(c:Ch)(N:Nat->Nat->Int)(l r:Nat):Nat->Int
 |0=>1152921504606846976
 |j+1=>min (c.nv N l r j) (max (max (c.nd l r (j+1)) (c.w (l+j+1)+N (l+j+1) r)) (N l (l+j+1)))
def Ch.adr(c:Ch):Nat->Nat->Nat->Int
 |0,_,_=>1152921504606846976
 |d+1,l,r=>if r=l+1 then c.single l r else c.nv (c.adr d) l r (r-l-1)
def Ch.N(c:Ch)(l r:Nat):Int:=c.adr (r-l) l r
variable{z:Int}
def wB(z:Int):Bool:=decide (1<=z)&&decide (z<=65536)
def Ch.okB(c:Ch):Bool:=decide (1<=c.n)&&decide (c.n<=64)&&decide (c.W.length=c.n+1)&&c.W.all wB&&c.K.all dN
def Ch.aar{c:Ch}(h:c.okB=true):c.Ok:=by
 simp only[Ch.okB,bW,cu,cZ,wB,dN]at h;obtain⟨⟨⟨⟨l,m⟩,r⟩,e⟩,j⟩:=h;exact⟨l,m,r,λz b=>(e z b).1,λz b=>(e z b).2,λz b=>(j z b).1,λz b=>(j z b).2⟩
def BQ{α:Type}{f:α->Bool}{l:List α}{k:Nat}{x:α}(h:(l.take k).all f=true)(b:l[k]?=some x)(e:f x=true):(l.take (k+1)).all f=true:=by
 rw[fb,b,Option.toList_some,r4,h];simp[e]
def G7{α:Type}{f:α->Bool}{l:List α}{k:Nat}(h:(l.take k).all f=true)(b:l.length<=k):l.all f=true:=by
 rwa[bR b]at h
def zl{α:Type}{f:α->Bool}{l:List α}{k:Nat}{x:α}(b:l[k]?=some x)(e:f x=false):l.all f=false:=by
 rw[nu];exact⟨x,aC b,by simp[e]⟩
section
variable{w:World}{n p:Nat}
def LA:() 77 #[z] w (aD w (.bool (dN z))):=(lU z w).mono λ_ _ ⟨b,e⟩=>⟨b,e▸ab _ _⟩
def uf[a:Sl w A n c.W][b:Sl w B m c.K]:() 235 #[.agg #[.slice A n p,.slice B m q]] w (aD w (.bool c.okB)):=by
 obtain⟨T,U⟩:=h5;have E:=ae a.len;have j:Hx (m=c.n):=ae b.len;by_cases J:1<=m;rotate_left
 .have l:Hx (c.okB=false):=ae (by unfold Ch.okB;rw[<-j.o,dD J];rfl);go_enter func235,ntmps235
  go_wp2_with fail
  go_ret;exact⟨by rw[l.o];rfl,ab _ _⟩
 by_cases L:m<=64;rotate_left
 .have l:Hx (c.okB=false):=ae (by unfold Ch.okB;rw[<-j.o,dD L];simp);go_enter func235,ntmps235
  go_wp2_with fail
  go_ret;exact⟨by rw[l.o];rfl,ab _ _⟩
 by_cases F:n=m+1;rotate_left
 .have l:Hx (c.okB=false):=ae (by unfold Ch.okB;rw[<-j.o,<-E.o,dD F];simp);have e:((n:Int) !=(m:Int)+1)=true:=by rw[hR];omega
  clear F;go_enter func235,ntmps235
  go_wp2_with fail
  go_ret;exact⟨by rw[l.o];rfl,ab _ _⟩
 subst F;have G:Hx (c.okB=(c.W.all wB&&c.K.all dN)):=ae (by
  unfold Ch.okB;rw[<-j.o,<-E.o,ef J,ef L,ef rfl];simp)
 go_enter func235,ntmps235
 go_wp2_with fail
 go_loopw [28] (λi wr=>∃k:Nat,k<=m+1/\i=.int .i64 k/\Hx ((c.W.take k).all wB=true)/\Bx wr w.heap.size 244 #[.slice A (m+1) p,.slice B m q]/\aj wr w) (λi _=>m+1-(intOf i).toNat)
 case atStart=>exact⟨0,aT _,rfl,ae rfl,ao,ab _ _⟩
 case round=>
  obtain⟨k,N,rfl,D,V,hp⟩:=hrel;by_cases y:k<m+1
  .obtain⟨O,o1,z,rfl,I,P,r⟩:=a.get y;by_cases Q:1<=z;rotate_left
   .have l:Hx (c.W.all wB=false):=ae (zl r.o (by simp[wB];omega))
    go_wp2_with fail
    go_ret;exact⟨by rw[G.o,l.o];rfl,ab _ _⟩
   by_cases R:z<=65536;rotate_left
   .have l:Hx (c.W.all wB=false):=ae (zl r.o (by simp[wB];omega))
    go_wp2_with fail
    go_ret;exact⟨by rw[G.o,l.o];rfl,ab _ _⟩
   have C:=ae (BQ D.o r.o (by simp[wB];omega));clear r
   go_wp2_with fail
   go_roundw
   case rel=>exact⟨k+1,om,by go_num,C,ao,ab _ _⟩
   case measure=>exact e6
  .have M:Hx (c.okB=c.K.all dN):=ae (by rw[G.o,G7 D.o (by rw[<-E.o];omega),wh]);obtain⟨v,rfl⟩:=lg wr
   go_wp2_with fail
   go_loopw [42] (λi wr=>∃k:Nat,k<=m/\i=.int .i64 k/\Hx ((c.K.take k).all dN=true)/\aj wr v) (λi _=>m-(intOf i).toNat)
   case atStart=>exact⟨0,aT _,rfl,ae rfl,ab _ _⟩
   case round=>
    obtain⟨k,N,rfl,D,hp⟩:=hrel;by_cases y:k<m
    .obtain⟨O,o1,z,rfl,I,P,r⟩:=b.get y;rcases hz:dN z with _|_
     .have l:Hx (c.K.all dN=false):=ae (zl r.o hz)
      go_wp2_with (first|(go_at_call 77;(with_reducible refine(LA).mono ?_);rintro e u ⟨rfl,_⟩))
      go_ret;exact⟨by rw[M.o,l.o];rfl,ab _ _⟩
     have C:=ae (BQ D.o r.o hz);clear r
     go_wp2_with (first|(go_at_call 77;(with_reducible refine(LA).mono ?_);rintro e u ⟨rfl,_⟩))
     go_roundw
     case rel=>exact⟨k+1,om,by go_num,C,ab _ _⟩
     case measure=>exact e6
    .have S:Hx (c.okB=true):=ae (by rw[M.o];exact G7 D.o (by show c.n<=k;rw[<-j.o];omega))
     go_wp2_with fail
     go_ret;exact⟨by rw[S.o];rfl,ab _ _⟩
def Ch.TC(h:c.W[i]?=some z):c.w i=z:=by rw[Ch.w,aX,h];rfl
def Ch.abX(h:c.K[i]?=some z):c.k i=z:=by rw[Ch.k,aX,h];rfl
def Ch.eH(c:Ch)(cap:Int):Int:=if c.okB then(if cap<0\/4096<cap then 11 else 0)else 10
def ug[Sl w A n c.W][Sl w B m c.K]:() 197 #[.agg #[.slice A n p,.slice B m q],cap] w (aD w (.int .i64 (c.eH cap))):=by
 have r:=@aa;rcases h:c.okB with _|_
 .have b:Hx (c.eH cap=10):=ae (by rw[Ch.eH,h];rfl);go_enter func197,ntmps197
  go_wp2_with (first|(go_at_call 235;(with_reducible refine(uf).mono ?_);rintro e u ⟨rfl,_⟩))
  go_ret;exact⟨by rw[b.o];rfl,ab _ _⟩
 by_cases j:cap<0
 .have b:Hx (c.eH cap=11):=ae (by rw[Ch.eH,h,ah rfl,ah (.inl j)]);go_enter func197,ntmps197
  go_wp2_with (first|(go_at_call 235;(with_reducible refine(uf).mono ?_);rintro e u ⟨rfl,_⟩))
  go_ret;exact⟨by rw[b.o];rfl,ab _ _⟩
 by_cases l:4096<cap
 focus
  have b:Hx (c.eH cap=11):=ae (by rw[Ch.eH,h,ah rfl,ah (.inr l)])
 rotate_left
 focus
  have b:Hx (c.eH cap=0):=ae (by rw[Ch.eH,h,ah rfl,ag om])
 all_goals
  go_enter func197,ntmps197
  go_wp2_with (first|(go_at_call 235;(with_reducible refine(uf).mono ?_);rintro e u ⟨rfl,_⟩))
  go_ret;exact⟨by rw[b.o];rfl,ab _ _⟩
def G8[a:Sl w A n c.W](r:l<n):() 236 #[.agg #[.slice A n p,.slice B m q],l] w (aD w (.int .i64 (c.kept l))):=by
 obtain⟨y,C⟩:=h5;by_cases e:l=0
 .subst e;have b:Hx (c.kept 0=0):=ae (by rw[Ch.kept,ah rfl]);go_enter func236,ntmps236
  go_wp2_with fail
  go_ret;exact⟨by rw[b.o];rfl,ab _ _⟩
 .obtain⟨D,o1,z,rfl,u,E,j⟩:=a.get r;have b:Hx (c.kept l=z):=ae (by rw[Ch.kept,ag e,Ch.TC j.o]);clear j;go_enter func236,ntmps236
  go_wp2_with fail
  go_ret;exact⟨by rw[b.o];rfl,ab _ _⟩
def Sl.zm[a:Sl w A n c.W](r:l<n):∃b off,A=some ⟨b,off,none⟩/\Old b w/\w.cell? ⟨b,off+l,none⟩=some (.int .i64 (c.w l)):=by
 obtain⟨u,o1,z,rfl,e,j,y⟩:=a.get r;rw[<-Ch.TC y.o]at j;exact⟨u,o1,rfl,e,j⟩
def Sl.TD[a:Sl w A n c.K](r:l<n):∃b off,A=some ⟨b,off,none⟩/\Old b w/\w.cell? ⟨b,off+l,none⟩=some (.int .i64 (c.k l)):=by
 obtain⟨u,o1,z,rfl,e,j,y⟩:=a.get r;rw[<-Ch.abX y.o]at j;exact⟨u,o1,rfl,e,j⟩
def JN[Sl w A n c.W](h:Hx c.Ok)(C:l<n)(hr:r<n):() 237 #[.agg #[.slice A n p,.slice B m q],.agg #[l,r]] w (aD w (.int .i64 (c.single l r))):=by
 obtain⟨D,E⟩:=h5;have b:=h.o.G9 r;have j:=h.o.OM r;have a3:=h.o.oB l;have a4:=h.o.LB l;have u:Hx (c.single l r=c.w r+c.kept l):=ae rfl;have F:IntKind.i64.wrap (c.w r+c.kept l)=c.w r+c.kept l:=by rw[aV];omega
 clear b j a3 a4;obtain⟨G,o1,rfl,y,I⟩:=Sl.zm (c:=c) (w:=w) (A:=A) hr;go_enter func237,ntmps237
 go_wp2_with fail
 refine am aq (λz _=>?_);refine ap 0 ?_;refine ap 1 ?_;refine ap 2 ?_;refine ap 3 ?_;refine ap 4 ?_;refine ap 5 ?_;refine ap 6 ?_;refine ap 7 ?_;refine ap 8 ?_;refine aM 9 λK hK=>?_;go_simp
 (with_reducible refine(G8 om).mono ?_)
 rintro e z ⟨rfl,_⟩;dsimp only;refine aL hK ?_;clear hK K;refine ap 10 ?_;refine ap 11 ?_;refine aZ ?_
 go_wp2_with fail
 go_ret;exact⟨by rw[u.o];rfl,ab _ _⟩
def zn[a:Sl w A n c.W][b:Sl w B m c.K](h:Hx c.Ok){k:Nat}(V:l<k)(X:k<r)(hr:r<=m):() 239 #[.agg #[.slice A n p,.slice B m q],.agg #[l,r],k] w (aD w (.int .i64 (c.step l r k))):=by
 obtain⟨Y,Z⟩:=h5;have P:=h.o.G9 r;have Q:=h.o.OM r;have a3:=h.o.G9 k;have a4:=h.o.OM k;have G:=h.o.G9 (k-1);have I:=h.o.OM (k-1);have hm:m=c.n:=b.len;have T:n=c.n+1:=a.len.trans h.o.len;have J:=h.o.n2;rw[<-hm]at T J;obtain⟨j,rfl⟩:∃j,k=j+1:=⟨k-1,om⟩;rw[Nat.add_sub_cancel]at G I;obtain⟨b1,o1,R,U,v1⟩:=Sl.zm (c:=c) (w:=w) (A:=A) (n:=n) (l:=r) om;obtain⟨b2,o2,e,L,v2⟩:=Sl.zm (c:=c) (w:=w) (A:=A) (n:=n) (l:=j+1) om;obtain⟨b3,o3,u,M,v3⟩:=Sl.zm (c:=c) (w:=w) (A:=A) (n:=n) (l:=j) om;rw[R]at e u;injection e with e;injection e with e D;subst e D
 injection u with u;injection u with u E;subst u E
 subst R;clear L M;have S:IntKind.i64.wrap (((j+1:Nat):Int)-1)=((j:Nat):Int):=by rw[aV];omega
 have w1:IntKind.i64.wrap (c.w (j+1)+c.w j)=c.w (j+1)+c.w j:=by rw[aV];omega
 have w2:IntKind.i64.wrap (c.w (j+1)+c.w r)=c.w (j+1)+c.w r:=by rw[aV];omega
 have w3:IntKind.i64.wrap (c.w (j+1)+c.w j+c.w r)=c.w (j+1)+c.w j+c.w r:=by rw[aV];omega
 have z:Hx (c.step l r (j+1)=c.w (j+1)+(if j=l then 0 else c.w j)+(if r=m then 0 else c.w r)):=ae (by rw[Ch.step,Nat.add_sub_cancel,hm]);clear hm;by_cases C:j=l
 .by_cases y:r=m
  focus
   have F:Hx (c.step l r (j+1)=c.w (j+1)):=ae (by rw[z.o,ah C,ah y];omega);have N:((j:Int) !=(l:Int))=false:=by simp;omega
   have O:((r:Int) !=(m:Int))=false:=by simp;omega
  rotate_left
  focus
   have F:Hx (c.step l r (j+1)=c.w (j+1)+c.w r):=ae (by rw[z.o,ah C,ag y];omega);have N:((j:Int) !=(l:Int))=false:=by simp;omega
   have O:((r:Int) !=(m:Int))=true:=by rw[hR];omega
  all_goals
   clear C y P Q a3 a4 G I z;go_enter func239,ntmps239
   go_wp2_with fail
   go_ret;exact⟨by rw[F.o];rfl,ab _ _⟩
 .by_cases y:r=m
  focus
   have F:Hx (c.step l r (j+1)=c.w (j+1)+c.w j):=ae (by rw[z.o,ag C,ah y];omega);have N:((j:Int) !=(l:Int))=true:=by rw[hR];omega
   have O:((r:Int) !=(m:Int))=false:=by simp;omega
  rotate_left
  focus
   have F:Hx (c.step l r (j+1)=c.w (j+1)+c.w j+c.w r):=ae (by rw[z.o,ag C,ag y]);have N:((j:Int) !=(l:Int))=true:=by rw[hR];omega
   have O:((r:Int) !=(m:Int))=true:=by rw[hR];omega
  all_goals
   clear C y P Q a3 a4 G I z;go_enter func239,ntmps239
   go_wp2_with fail
   go_ret;exact⟨by rw[F.o];rfl,ab _ _⟩
end
variable{clock mb:Nat}{es:Array MapEntry}
section
set_option linter.unusedSimpArgs false
abbrev dz(l r:Int):Value:=.agg #[l,r]
def Ha(w:World)(l r b e:Int):(Op.equal 294 (dz l r) (dz b e)).run prog w=.ok (l==b&&r==e) w:=by
 have:(Op.equal 294 (dz l r) (dz b e)).run prog w=if l=b then(if r=e then Result.ok true w else Result.ok false w)else Result.ok false w:=by
  simp[Op.equal,Op.maxDepth,go_sem]
 rw[this];by_cases j:l=b<;>by_cases m:r=e<;>simp[j,m]
def ON(em:Bool)(w:World)(l r:Int)(d:Nat):(Instr.checkKey em (d+1+1) 294 (dz l r)).run prog w=.ok () w:=by
 simp[Instr.checkKey,go_sem]
 trace_state
def pP(em:Bool)(w:World)(l r:Int):(Instr.checkKey em 10000 294 (dz l r)).run prog w=.ok () w:=ON em w l r 9998
def zo(j:List MapEntry):Prop:=∀e∈j,∃a b:Int,e.key=dz a b
def s9(l r:Int):∀(m:List MapEntry) (i:Nat),zo m->
  (∃j e,e∈m/\e.key=dz l r/\∀w:World,(Instr.findAsking 294 (dz l r) m i).run prog w=.ok (some (j,e.val)) w)\/
  ((∀e∈m,e.key≠dz l r)/\∀w:World,(Instr.findAsking 294 (dz l r) m i).run prog w=.ok none w)
 |[],i,_=>.inr ⟨aG,λw=>by simp[Instr.findAsking]⟩
 |e::m,i,h=>by
  obtain⟨a,b,z⟩:=h e aG;by_cases y:l=a/\r=b
  .obtain⟨rfl,rfl⟩:=y;refine .inl ⟨i,e,aG,z,λw=>?_⟩;simp only[Instr.findAsking,rQ,z,Ha,rK];simp
  .have B:(l==a&&r==b)=false:=by simpa using y
   have C:e.key≠dz l r:=by
    rw[z];intro x;simp at x;exact y ⟨x.1.symm,x.2.symm⟩
   have u:∀w:World,(Instr.findAsking 294 (dz l r) (e::m) i).run prog w=(Instr.findAsking 294 (dz l r) m (i+1)).run prog w:=λw=>by
    simp only[Instr.findAsking,rQ,z,Ha,rK,B];simp
   rcases s9 l r m (i+1) (λx hx=>h x (by simp[hx]))with⟨j,x,hx,D,hr⟩|⟨E,hr⟩
   .exact .inl ⟨j,x,by simp[hx],D,λw=>(u w).trans (hr w)⟩
   .exact .inr ⟨λx hx=>by
     rcases bT.1 hx with rfl|hx
     .exact C
     .exact E x hx,λw=>(u w).trans (hr w)⟩
def zp(l r:Int)(m:List MapEntry)(h:zo m):
  (∃j e,e∈m/\e.key=dz l r/\∀w:World,(Instr.findKey 294 (dz l r) m).run prog w=.ok (some (j,e.val)) w)\/
  ((∀e∈m,e.key≠dz l r)/\∀w:World,(Instr.findKey 294 (dz l r) m).run prog w=.ok none w):=by
 cases m with
 |nil=>exact .inr ⟨aG,λw=>by simp[Instr.findKey,Instr.findNow,dU underlying294]⟩
 |cons e m=>
  have:∀w:World,(Instr.findKey 294 (dz l r) (e::m)).run prog w=(Instr.findAsking 294 (dz l r) (e::m) 0).run prog w:=λw=>by
   obtain⟨a,b,u⟩:=h e aG;simp[Instr.findKey,Instr.findNow,Instr.sameNow,u,dU underlying294]
  simp only[this];exact s9 l r _ 0 h
structure abY(w:World)(mb:Nat)(es:Array MapEntry)(clock:Nat):Prop where
 al:w.heap[mb]?=some (.map es clock)
 keys:zo es.toList
def JO(h:zo es.toList)(l r:Int):
  (∃e,e∈es.toList/\e.key=dz l r/\∀w:World,w.heap[mb]?=some (.map es clock)->(Instr.lookup 290 (.map (some mb)) (dz l r) true).run prog w=.ok (.tuple #[e.val,.bool true]) w)\/
  ((∀e∈es.toList,e.key≠dz l r)/\∀w:World,w.heap[mb]?=some (.map es clock)->(Instr.lookup 290 (.map (some mb)) (dz l r) true).run prog w=.ok (.tuple #[.agg #[.slice none 0 0],.bool false]) w):=by
 rcases zp l r es.toList h with⟨j,e,b,m,hr⟩|⟨u,hr⟩
 .exact .inl ⟨e,b,m,λw hb=>by simp[Instr.lookup,dU underlying290,nB hb,pP,hr w,go_sem]⟩
 .exact .inr ⟨u,λw hb=>by simp[Instr.lookup,dU underlying290,nB hb,pP,hr w,go_sem]⟩
def OO{w:World}(h:abY w mb es m)(l r:Int)(v:Value)(b:∀e∈es.toList,e.key≠dz l r):
  (Instr.mapUpdate 290 (.map (some mb)) (dz l r) v).run prog w=.ok () (ChangeMaps.setBlock w mb (.map (es.push {key:=dz l r,val:=v,born:=m}) (m+1))):=by
 rcases zp l r es.toList h.keys with⟨j,e,u,y,hr⟩|⟨b,hr⟩
 .exact absurd y (b e u)
 .simp[Instr.mapUpdate,dU underlying290,nB h.al,wm _ h.al,pP,hr,ChangeMaps.setBlock]
end
section
variable{b g0:Nat}{bad:Nat->Prop}{nk:Nat->Nat->Prop}
def Ch.rl(c:Ch)(cap:Int)(l:Nat):Nat:=(cap-c.kept l+1).toNat
def Ch.row(c:Ch)(cap:Int)(l r:Nat):List Int:=(List.range (c.rl cap l)).map λ(m:Nat)=>c.V l r (m:Int)
def Ch.iX(c:Ch)(cap:Int)(l r j:Nat):List Int:=(List.range (c.rl cap l)).map λ(m:Nat)=>c.pv c.V l r (m:Int) j
section
variable{w:World}{bad':Nat->Prop}{nk':Nat->Nat->Prop}
def Ch.oC(h:m<c.rl cap l):(c.row cap l r)[m]?=some (c.V l r (m:Int)):=by simp[Ch.row,h]
def Hb(w:World)(c:Ch)(cap:Int)(bad:Nat->Prop)(nk:Nat->Nat->Prop)(e:MapEntry):Prop:=
 ∃l r g:Nat,l<r/\r<=c.n/\e.key=dz (l:Int) (r:Int)/\e.val=.agg #[.slice g (c.rl cap l) (c.rl cap l)]/\Own w g 3 (c.row cap l r)/\¬bad g/\¬nk l r
def Mem(w:World)(mb:Nat)(c:Ch)(cap:Int)(bad:Nat->Prop)(nk:Nat->Nat->Prop):Prop:=
 ∃j b,w.heap[mb]?=some (.map j b)/\∀e∈j.toList,Hb w c cap bad nk e
def Hb.same{e:MapEntry}(h:Hb w c cap bad nk e)(u:∀b,b<w.heap.size->¬bad b->w'.heap[b]?=w.heap[b]?):Hb w' c cap bad nk e:=by
 obtain⟨l,r,g,y,z,B,C,j,m,D⟩:=h;exact⟨l,r,g,y,z,B,C,(u g j.lt m).trans j,m,D⟩
def Mem.same(h:Mem w mb c cap bad nk)(hm:w'.heap[mb]?=w.heap[mb]?)(j:∀b,b<w.heap.size->¬bad b->w'.heap[b]?=w.heap[b]?):Mem w' mb c cap bad nk:=by
 obtain⟨m,cl,u,y⟩:=h;exact⟨m,cl,hm.trans u,λe z=>(y e z).same j⟩
def Mem.lt(h:Mem w mb c cap bad nk):mb<w.heap.size:=by
 obtain⟨e,cl,b,_⟩:=h;exact(eX.1 b).1
def Mem.at(h:Mem w mb c cap bad nk)[l:aF w w']:Mem w' mb c cap bad nk:=h.same (l.st.block _ h.lt) λb hb _=>l.st.block b hb
def Mem.less(h:Mem w mb c cap bad nk)(hb:∀g,bad' g->bad g)(b:∀l r,nk' l r->nk l r):Mem w mb c cap bad' nk':=by
 obtain⟨j,cl,m,u⟩:=h;refine⟨j,cl,m,λe y=>?_⟩;obtain⟨l,r,g,z,B,C,D,E,F,G⟩:=u e y;exact⟨l,r,g,z,B,C,D,E,λx=>F (hb _ x),λx=>G (b _ _ x)⟩
def Mem.fresh(h:Mem w mb c cap bad nk)(hg:w.heap.size<=g0):Mem w mb c cap (λg=>bad g\/g=g0) nk:=by
 obtain⟨j,cl,m,u⟩:=h;refine⟨j,cl,m,λe y=>?_⟩;obtain⟨l,r,g,z,B,C,D,b,E,F⟩:=u e y;have:=b.lt;exact⟨l,r,g,z,B,C,D,b,λx=>x.elim E (λx=>by omega),F⟩
def Mem.TG(b:∀e∈es.toList,Hb w c cap bad nk e):zo es.toList:=λe j=>by
 obtain⟨l,r,g,u,y,m,_⟩:=b e j;exact⟨_,_,m⟩
def BR{a a':Nat}(h:dz (a:Int) (b:Int)=dz (a':Int) (m:Int)):a=a'/\b=m:=by
 simp at h;omega
def Mem.look(h:Mem w mb c cap bad nk)(l r:Nat):
  (∃g,(∀w':World,w'.heap[mb]?=w.heap[mb]?->(Instr.lookup 290 (.map (some mb)) (dz (l:Int) (r:Int)) true).run prog w'=.ok (.tuple #[.agg #[.slice (some ⟨g,0,none⟩) (c.rl cap l) (c.rl cap l)],.bool true]) w')/\Own w g 3 (c.row cap l r)/\¬bad g)\/
  ((∀w':World,w'.heap[mb]?=w.heap[mb]?->(Instr.lookup 290 (.map (some mb)) (dz (l:Int) (r:Int)) true).run prog w'=.ok (.tuple #[.agg #[.slice none 0 0],.bool false]) w')/\Mem w mb c cap bad (λa b=>nk a b\/a=l/\b=r)):=by
 obtain⟨M,cl,u,z⟩:=h;rcases JO (mb:=mb) (clock:=cl) (Mem.TG z) (l:Int) (r:Int)with⟨e,j,F,hr⟩|⟨N,hr⟩
 .obtain⟨G,I,g,J,K,m,B,C,D,L⟩:=z e j;rw[m]at F;obtain⟨rfl,rfl⟩:=BR F;rw[B]at hr;exact .inl ⟨g,λw' E=>hr w' (E.trans u),C,D⟩
 .refine .inr ⟨λw' E=>hr w' (E.trans u),M,cl,u,λe j=>?_⟩;obtain⟨G,I,g,J,K,m,B,C,D,L⟩:=z e j;refine⟨G,I,g,J,K,m,B,C,D,λx=>x.elim L (λ⟨x,y⟩=>?_)⟩;subst x y;exact N e j m
def Mem.put(h:Mem w mb c cap bad nk){l r:Nat}(U:l<r)(hr:r<=c.n)(L:nk l r)(M:Own w g0 3 (c.row cap l r))(hb:∀g,bad' g->bad g)(hg:¬bad' g0)(V:∀a b,nk' a b->nk a b)(D:¬nk' l r):
  ∃w',(Instr.mapUpdate 290 (.map (some mb)) (dz (l:Int) (r:Int)) (.agg #[.slice g0 (c.rl cap l) (c.rl cap l)])).run prog w=.ok () w'/\Mem w' mb c cap bad' nk'/\
   (∀b,b≠mb->w'.heap[b]?=w.heap[b]?)/\w'.heap.size=w.heap.size/\(mb<w.heap.size)/\(∀B,B<=mb->Below B w w'):=by
 have E:=h.lt;obtain⟨N,cl,C,F⟩:=h;have y:∀e∈N.toList,e.key≠dz (l:Int) (r:Int):=λe u z=>by
  obtain⟨O,P,g,Q,R,G,S,I,T,J⟩:=F e u;rw[G]at z;obtain⟨rfl,rfl⟩:=BR z;exact J L
 have j:∀b,b≠mb->(ChangeMaps.setBlock w mb (.map (N.push {key:=dz (l:Int) (r:Int),val:=.agg #[.slice g0 (c.rl cap l) (c.rl cap l)],born:=cl}) (cl+1))).heap[b]?=w.heap[b]?:=λb K=>vZ C _ K;have m:∀{g:Nat} {zs:List Int},Own w g 3 zs->g≠mb:=λ{g zs} o e=>by
  subst e;unfold Own at o;rw[C]at o;cases o
 refine⟨_,OO ⟨C,Mem.TG F⟩ _ _ _ y,⟨_,_,wa C _,λe u=>?_⟩,j,by simp[ChangeMaps.setBlock],E,λB X=>⟨rfl,rfl,rfl,by simp[ChangeMaps.setBlock],λk L=>j k om⟩⟩;rw[Array.toList_push,bJ,cF]at u;rcases u with u|rfl
 .obtain⟨O,P,g,Q,R,G,S,I,T,J⟩:=F e u;exact⟨O,P,g,Q,R,G,S,(j g (m I)).trans I,λx=>T (hb _ x),λx=>J (V _ _ x)⟩
 .exact⟨l,r,g0,U,hr,rfl,rfl,(j g0 (m M)).trans M,hg,D⟩
class Nx(mb:outParam Nat)(w':World)(w:outParam World):Prop where
 st:Below mb w w'
 keep:∀b,b<w.heap.size->b≠mb->w'.heap[b]?=w.heap[b]?
 map:∃es clock,w.heap[mb]?=some (.map es clock)
def Nx.ne{cs:Array Value}(h:Nx mb w' w)(b:aB w g T cs):g≠mb:=λe=>by
 subst e;obtain⟨m,cl,j⟩:=h.map;unfold aB at b;rw[j]at b;cases b
instance(priority:=low) Bx.nx[p:Nx mb w' w]{cs:Array Value}[h:Bx w g T cs]:Bx w' g T cs:=⟨(p.keep g h.al.lt (p.ne h.al)).trans h.al⟩
theorem Nx.trans{e:World}(h:Nx mb w' w)(k:Nx mb e w'):Nx mb e w:=
 ⟨h.st.trans k.st,λb hb j=>(k.keep b (bu hb h.st.size) j).trans (h.keep b hb j),h.map⟩
theorem Nx.of[p:aF w w'](hm:Mem w mb c cap bad nk):Nx mb w' w:=by
 have e:=hm.lt;obtain⟨j,cl,m,_⟩:=hm;exact⟨p.st.mono (gV e),λb hb _=>p.st.block b hb,j,cl,m⟩
end
end
variable{M:Nat}
def Ch.kh(c:Ch)(cap:Int)(l r j M:Nat):List Int:=(List.range (c.rl cap l)).map λ(i:Nat)=>if i<M then c.pv c.V l r (i:Int) (j+1)else c.pv c.V l r (i:Int) j
def Ch.uh:(c.kh cap l r j M).length=c.rl cap l:=by simp[Ch.kh]
def Ch.TH{m:Int}(h:m<c.nd l r (j+1)):c.pv c.V l r m (j+1)=c.pv c.V l r m j:=by
 rw[Ch.pv,ag om]
def Ch.TI{m:Int}(h:c.nd l r (j+1)<=m):c.pv c.V l r m (j+1)=min (c.pv c.V l r m j) (c.cs l (j+1)+c.V (l+j+1) r (m-c.w (l+j+1))+c.V l (l+j+1) m):=by
 rw[Ch.pv,ah h]
def Ch.uX(h:(M:Int)<=c.nd l r (j+1)):c.kh cap l r j M=c.iX cap l r j:=by
 unfold Ch.kh Ch.iX;refine fj λi _=>?_
 split
 .exact Ch.TH om
 .rfl
def Ch.BS(h:c.rl cap l<=M):c.kh cap l r j M=c.iX cap l r (j+1):=by
 unfold Ch.kh Ch.iX;refine fj λi hi=>?_;rw[ah (by have:=hM.1 hi;omega)]
def Ch.Hc(h:M<c.rl cap l):(c.kh cap l r j M)[M]?=some (c.pv c.V l r (M:Int) j):=by simp[Ch.kh,h]
def Ch.OP(h:M<c.rl cap l):(c.kh cap l r j M).set M (c.pv c.V l r (M:Int) (j+1))=c.kh cap l r j (M+1):=by
 apply ek;intro i;rw[eZ,Ch.uh];by_cases e:M=i
 .subst e;rw[ah rfl,ah h];simp[Ch.kh,h]
 .rw[ag e];by_cases hi:i<c.rl cap l
  .simp only[Ch.kh,bj,fI hi,nC];congr 1;by_cases b:i<M
   .rw[ah b,ah om]
   .rw[ag b,ag om]
  .rw[c6 (by rw[Ch.uh];omega),c6 (by rw[Ch.uh];omega)]
def Ch.JP(h:l+1<r):c.iX cap l r (r-l-1)=c.row cap l r:=by
 unfold Ch.iX Ch.row;refine fj λi _=>?_;rw[Ch.LC h]
def Ch.JQ:c.iX cap l r 0=List.replicate (c.rl cap l) 1152921504606846976:=by
 rw[Ch.iX];apply ek;intro i;by_cases hi:i<c.rl cap l
 .simp[hi,Ch.pv]
 .rw[c6 bY,c6 bY]
def Ch.ki(c:Ch)(cap:Int)(l M:Nat):List Int:=(List.range (c.rl cap l)).map λ(i:Nat)=>if i<M then c.V l (l+1) (i:Int)else 1152921504606846976
def Ch.ui:(c.ki cap l M).length=c.rl cap l:=by simp[Ch.ki]
def Ch.Hd(h:(M:Int)<=c.single l (l+1)):c.ki cap l M=List.replicate (c.rl cap l) 1152921504606846976:=by
 rw[Ch.ki];apply ek;intro i;by_cases hi:i<c.rl cap l
 .simp only[bj,fI hi,nC,ix,ah hi];congr 1
  split
  .rw[Ch.TJ,ag om]
  .rfl
 .rw[c6 bY,c6 bY]
def Ch.OQ(h:c.rl cap l<=M):c.ki cap l M=c.row cap l (l+1):=by
 unfold Ch.ki Ch.row;refine fj λi hi=>?_;rw[ah (by have:=hM.1 hi;omega)]
def Ch.OR(h:M<c.rl cap l)(hs:c.single l (l+1)<=(M:Int)):(c.ki cap l M).set M (c.own (l+1))=c.ki cap l (M+1):=by
 apply ek;intro i;rw[eZ,Ch.ui];by_cases e:M=i
 .subst e;rw[ah rfl,ah h];simp only[Ch.ki,bj,fI h,nC];rw[ah om,Ch.TJ,ah hs]
 .rw[ag e];by_cases hi:i<c.rl cap l
  .simp only[Ch.ki,bj,fI hi,nC];congr 1;by_cases b:i<M
   .rw[ah b,ah om]
   .rw[ag b,ag om]
  .rw[c6 (by rw[Ch.ui];omega),c6 (by rw[Ch.ui];omega)]
section
variable{W w0:World}{g0 sb:Nat}{bad:Nat->Prop}{nk:Nat->Nat->Prop}
section
variable{w:World}{n p:Nat}
def ta(w0 w:World)(mb:Nat)(c:Ch)(cap:Int)(bad:Nat->Prop)(nk:Nat->Nat->Prop)(l r:Nat)(e:Ending)(w':World):Prop:=
 ∃g,e=.returned (.agg #[.slice (some ⟨g,0,none⟩) (c.rl cap l) (c.rl cap l)])/\Bx w' g 3 (ints (c.row cap l r))/\¬bad g/\Hx (Mem w' mb c cap bad nk)/\Nx mb w' w/\aj w' w0
abbrev e5(A:Option Addr)(n p:Nat)(B:Option Addr)(m q:Nat)(cap:Int)(mb:Nat):Array Value:= #[.slice A n p,.slice B m q,m,cap,.map (some mb)]
def pQ(w0:World)(sb:Nat)(A:Option Addr)(n p:Nat)(B:Option Addr)(m q:Nat)(c:Ch)(cap:Int)(mb l r:Nat):Prop:=
 ∀(w:World) (bad:Nat->Prop) (nk:Nat->Nat->Prop),aj w w0->Bx w sb 292 (e5 A n p B m q cap mb)->Mem w mb c cap bad nk->(∀g,bad g->g<w.heap.size)->(∀a b,nk a b->r-l<b-a)->
  () 199 #[.pointer sb,.agg #[l,r]] w (ta w0 w mb c cap bad nk l r)
def pQ.at(h:pQ w0 sb A n p B m q c cap mb l r)(p1:aj w w0)[e:Bx w sb 292 (e5 A n p B m q cap mb)](hm:Mem w mb c cap bad nk)(j:∀g,bad g->g<w.heap.size)(u:∀a b,nk a b->r-l<b-a):
  () 199 #[.pointer sb,.agg #[l,r]] w (ta w0 w mb c cap bad nk l r):=h w bad nk p1 e hm j u
structure SI(w0 W w:World)(mb g0:Nat)(c:Ch)(cap:Int)(bad:Nat->Prop)(nk:Nat->Nat->Prop):Prop where
 mem:Mem w mb c cap bad nk
 keep:∀b,b<W.heap.size->b≠mb->b≠g0->w.heap[b]?=W.heap[b]?
 size:W.heap.size<=w.heap.size
def SI.set(h:SI w0 W w mb g0 c cap bad nk)(hg:bad g0)(hm:mb≠g0)(i:Nat)(v:Value):SI w0 W (w.setCell ⟨g0,i,none⟩ v) mb g0 c cap bad nk:=
 ⟨h.mem.same (bm w ⟨g0,i,none⟩ v mb hm) (λb _ hb=>bm w ⟨g0,i,none⟩ v b (λe=>hb (by simp only at e;rw[e];exact hg))),
  λb hb l j=>(bm w ⟨g0,i,none⟩ v b j).trans (h.keep b hb l j),by simpa using h.size⟩
def SI.at{W:World}(h:SI w0 W w mb g0 c cap bad nk)[l:aF w w']:SI w0 W w' mb g0 c cap bad nk:=
 ⟨h.mem.at,λb hb e j=>(l.st.block b (bu hb h.size)).trans (h.keep b hb e j),aO h.size l.st.size⟩
def SI.nx(hm:Mem w mb c cap bad nk)[p:Nx mb w W]:SI w0 W w mb g0 c cap bad nk:=⟨hm,λb hb e _=>p.keep b hb e,p.st.size⟩
def oD{w:World}(x:Option Addr)(a b:Nat):(Instr.field 296 (.agg #[.slice x a b]) 0).run prog w=.ok (.slice x a b) w:=by
 simp[Instr.field,asAgg,go_sem,dU underlying296]
def OS{k:Nat}(u:Hx c.Ok)(ih:Hx (∀l' r',l'<r'->r'-l'<r-l->r'<=c.n->pQ w0 sb A n p B m q c cap mb l' r'))(hk:Hx (k=l+j+1))(hl:l<k)(Q:k<r)(hr:r<=c.n)
  [a:Sl w0 A n c.W] [hp:aj w w0] [hbx:Bx w sb 292 (e5 A n p B m q cap mb)] (hm:Hx (Mem w mb c cap bad nk)) (F:Hx (∀g,bad g->g<w.heap.size)) (R:Hx (∀a b,nk a b->r-l<=b-a))
  [ho:Bx w g0 3 (ints (c.iX cap l r j))] (G:Hx (bad g0)) {N:Nat} {cost:Int} (y:Hx (c.nd l r (j+1)=(N:Int))) (C:Hx (c.cs l (j+1)=cost)) (hN:N<c.rl cap l) (Af:cap<=4096) (S:w0.heap.size<=g0):
  () 240 #[.pointer sb,.agg #[l,r],k,N,cost,.slice g0 (c.rl cap l) (c.rl cap l)] w
   (λe w'=>e=.returned (.tuple #[])/\SI w0 w w' mb g0 c cap bad nk/\Bx w' g0 3 (ints (c.iX cap l r (j+1)))/\aj w' w0):=by
 obtain⟨CB,CP⟩:=h5;have FR:=@oD;go_enter func240,ntmps240
 go_upto_region 1 with fail
 refine aR w0 (λT=>Bx T w.heap.size 294 #[l,r]) aq ao (λux _=>?_);refine bw 0 ?_;refine bw 1 ?_;refine bw 2 ?_;refine bw 3 ?_;refine bw 4 ?_;refine bw 7 ?_;refine bw 8 ?_;refine bw 9 ?_;refine bw 10 ?_;refine bw 11 ?_;refine aM 5 λK hK=>?_;go_simp
 (with_reducible refine((ih.o k r Q om hr).at (ab _ _) hm.o.at (λg h=>bu (F.o g h) ai) (λa b h=>by have:=R.o a b h;omega)).mono ?_)
 rintro e ux ⟨gR,rfl,kR,nbR,mR,I,pR⟩;dsimp only;refine aL hK ?_ ⟨ab w0 _,ao⟩;clear hK K;refine bw 6 ?_;refine aM 12 λK hK=>?_;obtain⟨u1,rfl⟩:=lg ux;have xb:(World.heap w).size<=u1.heap.size:=aO ai I.st.size;go_simp
 (with_reducible refine((ih.o l k hl om om).at pR mR.o (λg h=>bu (F.o g h) xb) (λa b h=>by have:=R.o a b h;omega)).mono ?_)
 rintro e ux ⟨gL,rfl,kL,nbL,mL,U,pL⟩;dsimp only;refine aL hK ?_ ⟨ab w0 _,ao⟩;clear hK K;refine bw 13 ?_;refine bw 14 ?_;refine bw 15 ?_;refine aZ ?_
 go_upto_region 3 with fail
 obtain⟨v,rfl⟩:=lg ux;have J:Nx mb v w:=((Nx.of hm.o).trans I).trans U;have HSI:Hx (SI w0 w v mb g0 c cap bad nk):=ae (SI.nx (W:=w) (p:=J) mL.o);have kg:Bx v g0 3 (ints (c.kh cap l r j N)):=by rw[Ch.uX (by rw[y.o];exact dM _)];exact ao
 have kS:Bx v sb 292 (e5 A n p B m q cap mb):=ao;have kR2:Bx v gR 3 (ints (c.row cap k r)):=ao;have hgm:mb≠g0:=λe=>(J.ne ho.al) e.symm;clear J I U mR mL hm hbx ho kR pR hp;go_loopw [14] (λi wr=>∃M:Nat,N<=M/\M<=c.rl cap l/\i=.int .i64 M/\Hx (SI w0 w wr mb g0 c cap bad nk)/\Bx wr g0 3 (ints (c.kh cap l r j M))/\Bx wr sb 292 (e5 A n p B m q cap mb)/\Bx wr gR 3 (ints (c.row cap k r))/\Bx wr gL 3 (ints (c.row cap l k))/\aj wr w0) (λi _=>c.rl cap l-(intOf i).toNat)
 case atStart=>exact⟨N,an _,gV hN,rfl,HSI,kg,kS,kR2,kL,pL⟩
 case round=>
  obtain⟨M,hNM,hM,rfl,HS,kg,kS,kR,kL,pr⟩:=hrel;by_cases E:M<c.rl cap l
  .have vn:k<n:=by have:=a.len;have:=u.o.len;omega
   obtain⟨b1,o1,rfl,q6,v1⟩:=Sl.zm (c:=c) (w:=w0) (A:=A) (n:=n) (l:=k) vn;have hcn:=u.o.n2;have Ma:=u.o.G9 k;have X:(M:Int)<=cap-c.kept l:=by unfold Ch.rl at E;omega
   have TK:c.w k<=(M:Int):=by
    have:=u.o.Xp (l:=l) (r:=r) (j:=j) (m:=(M:Int)) (by rw[y.o];omega);rwa[<-hk.o]at this
   have Y:c.kept k=c.w k:=by unfold Ch.kept;rw[ag om]
   have Fc:=u.o.oB l;obtain⟨D,hD⟩:∃D:Nat,(M:Int)-c.w k=(D:Int):=⟨((M:Int)-c.w k).toNat,om⟩;have Nw:D<c.rl cap k:=by unfold Ch.rl;rw[Y];omega
   have e1:(ints (c.kh cap l r j M))[M]?=some (.int .i64 (c.pv c.V l r (M:Int) j)):=by rw[eu,Ch.Hc E];rfl
   have e2:(ints (c.row cap k r))[D]?=some (.int .i64 (c.V k r (D:Int))):=by rw[eu,Ch.oC Nw];rfl
   have e3:(ints (c.row cap l k))[M]?=some (.int .i64 (c.V l k (M:Int))):=by rw[eu,Ch.oC E];rfl
   have hM4:M<=4096:=om;have hs:IntKind.i64.wrap (D:Int)=(D:Int):=by rw[aV];omega
   have oG:Own wr g0 3 (c.kh cap l r j M):=kg.al;have nS:sb≠g0:=λe=>oG.aS kS.al ak e.symm;have nR:gR≠g0:=λe=>nbR (by rw[e];exact G.o);have nL:gL≠g0:=λe=>nbL (by rw[e];exact G.o);have m1:=u.o.mod (l:=k) (r:=r) (m:=(D:Int)) Q hr;have m2:=u.o.mod (l:=l) (r:=k) (m:=(M:Int)) hl om;have Z:=m1.lo;have TL:=m1.hi om;have TM:=m2.lo;have TN:=m2.hi om;have vd:=u.o.Xq l (j+1);have ve:=u.o.Xr l (j+1);rw[C.o]at vd ve;have Xs:((j+1:Nat):Int)<=64:=by have:=hk.o;omega
   obtain⟨x1,L⟩:=lh (c.V k r (D:Int));obtain⟨x2,O⟩:=lh (c.V l k (M:Int));obtain⟨x3,P⟩:=lh (c.pv c.V l r (M:Int) j);have HP:Hx (c.pv c.V l r (M:Int) (j+1)=min x3 (cost+x1+x2)):=ae (by
    rw[Ch.TI (by rw[y.o];omega),C.o,<-hk.o,hD,L,O,P])
   have HAT:=ae (Ch.Hc (c:=c) (cap:=cap) (l:=l) (r:=r) (j:=j) E);rw[P]at e1 HAT;rw[L]at e2 Z TL;rw[O]at e3 TM TN;have s1:IntKind.i64.wrap (cost+x1)=cost+x1:=by rw[aV];omega
   have s2:IntKind.i64.wrap (cost+x1+x2)=cost+x1+x2:=by rw[aV];omega
   have Jg:w0.heap.size<=g0:=S;clear m1 m2 Z TL TM TN vd ve Xs L O P Fc Y TK X hcn Ma
   go_wp2_with fail
   refine aR w0 (λT=>Bx T sb 292 (e5 (some ⟨b1,o1,none⟩) n p B m q cap mb)/\Bx T gR 3 (ints (c.row cap k r))/\Bx T gL 3 (ints (c.row cap l k))) aq ⟨ao,ao,ao⟩ (λz _=>?_);refine bl 0 ?_;refine bl 1 ?_;refine bl 2 ?_;refine bl 3 ?_;refine bl 4 ?_;refine bl 6 ?_;refine bl 7 ?_;refine bl 8 ?_;refine bl 9 ?_;refine bl 10 ?_;refine bl 11 ?_;refine bl 12 ?_;refine bl 13 ?_;refine bl 14 ?_;refine bl 15 ?_;refine bl 16 ?_;refine bl 17 ?_;refine bl 18 ?_;refine bl 19 ?_;refine bl 20 ?_;refine bl 21 ?_;refine bl 22 ?_;refine bl 23 ?_;refine bl 24 ?_;refine bl 25 ?_;refine aM 5 λK hK=>?_;go_simp;refine aL hK ?_ ⟨ab w0 _,⟨ao,ao,ao⟩⟩;clear hK K;refine bl 26 ?_;refine bl 27 ?_;refine aM 28 λK hK=>?_;have zM:=((oG).at (w':=z)).cell HAT.o;have CJ:=((oG).at (w':=z)).frozen M;go_simp;refine aL hK ?_ ⟨⟨(a7 w0 z).setCell (p:=⟨g0,M,none⟩) Jg _⟩,⟨⟨(Bx.al (w:=z)).a9 nS _⟩,⟨(Bx.al (w:=z)).a9 nR _⟩,⟨(Bx.al (w:=z)).a9 nL _⟩⟩⟩;clear hK K zM CJ;refine aZ ?_
   go_wp2_with fail
   go_roundw
   case rel=>exact⟨M+1,om,om,by go_num,ae ((HS.o.at (w':=z)).set G.o hgm M _),⟨by rw[<-Ch.OP E,HP.o];exact(oG.at (w':=z)).ax M _⟩,⟨(Bx.al (w:=z)).a9 nS _⟩,⟨(Bx.al (w:=z)).a9 nR _⟩,⟨(Bx.al (w:=z)).a9 nL _⟩,⟨(a7 w0 z).setCell (p:=⟨g0,M,none⟩) Jg _⟩⟩
   case measure=>exact e6
  .have hMe:M=c.rl cap l:=om;have Wz:Bx wr g0 3 (ints (c.iX cap l r (j+1))):=by rw[<-Ch.BS (M:=M) om];exact kg
   go_wp2_with fail
   exact⟨rfl,.tuple #[],by simp[results,results240,go_sem],rfl,HS.o,Wz,ab _ _⟩
end
end
section
variable{P:Program}{Q:Exit->Act->World->Prop}{a:Act}{w0:World}{T':TypeId}{i4:Array Value}{sb:Nat}
def rE{C:Code}{cs:Array Value}(h:∀u,aj u X->Bx u X T cs->Bx u (X.heap.size+1) T' i4->C.wp P Q a u):C.wp P Q a ((X.alloc (.cells cs T)).alloc (.cells i4 T')):=
 h _ (ab _ _) ao ao
def JR(n:Nat)(l:n<=1000000)(W:World):(Instr.makeSlice 24 (.int .i64 (n:Int)) (.int .i64 (n:Int))).run prog W=.ok (.slice W n n) (W.alloc (.cells (ints (List.replicate n 0)) 3)):=by
 have b:(prog.info? 3).map (λi=>(i.zero,i.size,i.bytes))=some (some (.int .i64 0),1,8):=aq;obtain⟨i,hi,e⟩:=bD.1 b;simp only[dL]at e;obtain⟨j,hs,hb⟩:=e;have:=run_make (P:=prog) W 24 3 i _ underlying24 hi j .i64 .i64 n n om (dM _) (by rw[hb];omega) om;rw[this,hs,<-hY];simp[Value.cells]
def iO(n M:Nat)(v u:Int):List Int:=(List.range n).map λi=>if i<M then v else u
def ly{n:Nat}{v:Int}:(iO n M v z).length=n:=by simp[iO]
def He{n:Nat}{v:Int}:iO n 0 v z=List.replicate n z:=by
 apply ek;intro i;by_cases hi:i<n
 .simp[iO,hi]
 .rw[c6 (by rw[ly];omega),c6 bY]
def Hf{n:Nat}{v u:Int}(h:n<=M):iO n M v u=List.replicate n v:=by
 apply ek;intro i;by_cases hi:i<n
 .simp[iO,hi,show i<M from om]
 .rw[c6 (by rw[ly];omega),c6 bY]
def qi{n:Nat}{v:Int}(h:i<n):(iO n M v z)[i]?=some (if i<M then v else z):=by simp[iO,h]
def JS{n:Nat}{v u:Int}(h:M<n):(iO n M v u).set M v=iO n (M+1) v u:=by
 apply ek;intro i;rw[eZ,ly];by_cases e:M=i
 .subst e;rw[ah rfl,ah h,qi h,ah om]
 .rw[ag e];by_cases hi:i<n
  .rw[qi hi,qi hi];by_cases b:i<M
   .rw[ah b,ah om]
   .rw[ag b,ag om]
  .rw[c6 (by rw[ly];omega),c6 (by rw[ly];omega)]
section
variable{w:World}{n p:Nat}
def WA(C:m<=64)(I:0<r)[b:Sl w0 B m c.K][aj w w0][Bx w sb 292 (e5 A n p B m q cap mb)]:
  () 238 #[.pointer sb,.agg #[l,r]] w (aD w (.int .i64 (c.own r))):=by
 obtain⟨J,L⟩:=h5;have hm:m=c.n:=b.len;by_cases e:r=m
 .have u:Hx (c.own r=c.k (r-1)):=ae (by rw[Ch.own,ah om]);obtain⟨j,y⟩:=lh (r-1);rw[y]at u;obtain⟨M,o1,rfl,D,N⟩:=Sl.TD (c:=c) (w:=w0) (A:=B) (n:=m) (l:=j) om;have z:IntKind.i64.wrap ((r:Int)-1)=((j:Nat):Int):=by rw[aV];omega
  have E:((r:Int)==(m:Int))=true:=by simp;omega
  have F:j<m:=om;clear y;clear e hm;go_enter func238,ntmps238
  go_wp2_with fail
  refine am aq (λG _=>?_);refine ap 0 ?_;refine ap 1 ?_;refine ap 2 ?_;refine ap 3 ?_;refine ap 4 ?_;refine ap 5 ?_;refine ap 6 ?_;refine aZ ?_
  go_wp2_with fail
  refine am aq (λO _=>?_);refine ap 0 ?_;refine ap 1 ?_;refine ap 2 ?_;refine ap 3 ?_;refine ap 4 ?_;refine ap 5 ?_;refine ap 6 ?_;refine ap 7 ?_;refine ap 8 ?_;refine ap 9 ?_;refine ap 10 ?_;refine aZ ?_
  go_wp2_with fail
  go_ret;exact⟨by rw[u.o];rfl,ab _ _⟩
 .have u:Hx (c.own r=0):=ae (by rw[Ch.own,ag om]);have E:((r:Int)==(m:Int))=false:=by simp;omega
  clear e hm;go_enter func238,ntmps238
  go_wp2_with fail
  refine am aq (λG _=>?_);refine ap 0 ?_;refine ap 1 ?_;refine ap 2 ?_;refine ap 3 ?_;refine ap 4 ?_;refine ap 5 ?_;refine ap 6 ?_;refine aZ ?_
  go_wp2_with fail
  go_ret;exact⟨by rw[u.o];rfl,ab _ _⟩
end
end
