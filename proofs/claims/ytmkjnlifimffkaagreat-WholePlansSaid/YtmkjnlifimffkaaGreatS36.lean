/- Lemmas. -/
import Derived.Test.YtmkjnlifimffkaaGreatS35
import Derived.Conc.LoneSelect
import Derived.Test.YtmkjnlifimffkaaGreatS29
namespace Go.Proofs.YtmkjnlifimffkaaGreat
open Go.RowKit Tryz
set_option linter.all false
set_option maxRecDepth 100000
set_option maxHeartbeats 0
variable{Γ:Prop}
attribute[local irreducible]Calls
variable{p u w w' w1:World}{GB g i j k l n r:Nat}{m2:kE}{J:L3}{N:bm}{O:List Int}{L:List (List Int)}{cap id kd:Int}{s:jv}
variable{B:Nat}{m m':kE}{e e':si}{gs:List Tn}{X:Tn}{P:List TV}{x:TV}
def xk2(h:Γ:=by go_ret;exact⟨rfl,D,E,b,F,G,I,ae ⟨by have:=y.o.1;omega,by have:=y.o.2;omega⟩,K⟩):=h
def abj[aT p w](T:Hx (xH p J N L P x))(c:fQ N O L l P x)(hJ:J.l=l)(hI:gU N O L l P x cap s e)(hS:ho p w J g r GB m e gs X)(hc:lG (dt N cap) s kd id=0)(Z:N.nodes.length<=200)(qi:e.A.nx<=100000000000)(r9:e.A.mv<=100000000000):
  () 55 #[.pointer g,.agg #[kd,id]] w (wy p J g r GB N O L l P x cap (g4 (dt N cap) s kd id) e.A 1000):=by
 have CB:=@ay;have hr:=(r4 hc).1;have z:e.A.nx<=1000000000000:=om;have C:e.A.mv<=1000000000000:=om;have M:=ae c;have Q:=ae hI;have R:=ae hS;have S:=ae hc;have HJ:=ae hJ;clear c hI hS hc hJ;rcases IT hr with rfl|rfl|rfl|rfl|rfl|rfl
 .clear hr;go_in;go_upto_region 1 with fail;refine aE (λu U k0=>?_);go_wp2_with (go_at_call 97;refine(D4 (p:=p) T M Q (R.o.at (w':=u)) S (.inl rfl) Z z C).mono ?_;rintro V Y ⟨rfl,D,E,b,F,G,I,y,K⟩);exact xk2
 .clear hr;go_in;go_upto_region 1 with fail;refine aE (λu U k0=>?_);go_wp2_with (go_at_call 97;refine(D4 (p:=p) T M Q (R.o.at (w':=u)) S (.inr rfl) Z z C).mono ?_;rintro V Y ⟨rfl,D,E,b,F,G,I,y,K⟩);exact xk2
 .clear hr;go_in;go_upto_region 1 with fail;refine aE (λu U k0=>?_);go_upto_region 6 with fail;refine wp_region_still_tail 5 ao ao ?_;change wpStill _ _ (u).drew _ _ _;simp only[fX,dW,iB,fo];(repeat still_step);refine gG ?_;go_wp2_with (go_at_call 98;refine(Q7 (p:=p) M Q (R.o.at (w':=u.drew)) S).mono ?_;rintro V Y ⟨rfl,D,E,b,F,G,I,y,K⟩);exact xk2
 .clear hr;go_in;go_upto_region 1 with fail;refine aE (λu U k0=>?_);go_wp2_with (go_at_call 99;refine(Q8 (p:=p) (id:=id) T M HJ Q (R.o.at (w':=u)) S).mono ?_;rintro V Y ⟨rfl,D,E,b,F,G,I,y,K⟩);exact xk2
 .clear hr;go_in;go_upto_region 1 with fail;refine aE (λu U k0=>?_);go_wp2_with (go_at_call 100;refine(Q9 (p:=p) (id:=id) T M HJ Q (R.o.at (w':=u)) S Z z C).mono ?_;rintro V Y ⟨rfl,D,E,b,F,G,I,y,K⟩);exact xk2
 clear hr;go_in;go_upto_region 1 with fail;refine aE (λu U k0=>?_);go_wp2_with (go_at_call 101;refine(Wd (p:=p) T M Q (R.o.at (w':=u)) S Z qi r9).mono ?_;rintro V Y ⟨rfl,D,E,b,F,G,I,y,K⟩);go_ret;exact⟨rfl,D,E,b,F,G,I,y,K⟩
variable{A B PA XA XB:Option Addr}{c cp cx d dx m mx np nx:Nat}{ps:List Tn}{E P1 P2 P3 P4:Int}
variable{K:Option Addr}{cap:Nat}{is:List (Int×Int)}
def Ec[aW w A n B m N][Ts w PA np ps][Sl w XA nx x.1][Sl w XB mx x.2][Is w K k is](j:Hx N.fits)(hs:Hx N.small)(r:Hx (bo N=0))(hP:Hx ((ps.map Tn.tv).map (·.1)=bH N))(hO:Hx (eB ps))(u:Hx (x.1=N.dV))(hr:ap x.1 x.2=true)(b:np<=100000000)(y:k<=65536)(l:cap<=16777216)
  (z:Hx (mV N (cap:Int) is=E)) (C:Hx (rf N (cap:Int) is=(P1,P2,P3,P4))):
  () 52 #[.agg #[(A,n,c),(B,m,d),(PA,np,cp),(XA,nx,cx),(XB,mx,dx),(K,k,g),cap]] w (aJ w (.tuple #[.agg #[P1,P2,P3,P4],E])):=by
 have F:=@ay;have G:=@aO;have e:=ae hr;have d1:decide ((cap:Int)<0)=false:=by simp
 have I:decide ((16777216:Int)<(cap:Int))=false:=by simp;omega
 clear hr;go_in;go_upto_region 1 with fail;refine dg (λJ L k1 k2=>?_);go_wp2_with (first|(go_at_call 24;refine mv (Bl j hs r hP hO u e b) λM _=>?_)|(go_at_call 14;refine mv (GA j hs y om z C) λD _=>?_));refine aX (v:=.tuple #[.agg #[P1,P2,P3,P4],E]) ?_ rfl ?_;rw[cF rfl];go_simp;exact⟨rfl,⟨((((aP w D).setCell (p:=⟨w.1.size+1,0,none⟩) (cz _) _).setCell (p:=⟨w.1.size+1,1,none⟩) (cz _) _).setCell (p:=⟨w.1.size+1,2,none⟩) (cz _) _).setCell (p:=⟨w.1.size+1,3,none⟩) (cz _) _⟩⟩
section
open Go.Conc Go.RowKit
def CB(w:aa):() 54 #[.chan none] w λe w'=>e=.returned (.bool false)/\w'=w:=by
 refine calls_of_loneTo (λcs=>?_) (λw' h=>by cases h.1);have e:Frame.enter prog 54 #[.chan none] .normal=(base 54).at ⟨#[.chan none,undef,undef,undef,undef,undef,undef],[]⟩ [.code (f54.body.getD .skip)]:=by simp[Frame.enter,Frame.at,func54,base,f54]
 rw[e];refine LoneTo.goes (n:=12) ?_;simp only[f54,tB];s_c stepG_seq;s_reg;s_op;s_c stepG_region_end;s_c stepG_seq;s_reg;s_op;s_c stepG_region_end;s_c stepG_seq;s_reg;s_stop;refine LoneTo.step (step_lone_select_recv_nil (z:=.int .i64 0) (stepG_comm (cases:= #[rcaseNil an]) (blocking:=false) (shape:=.select) (w':=w) rfl rfl am (by simp[go_sem,execOp,rcaseNil,Act.eval]))) ?_;rw[Frame.finish_at];walk_nrm;refine LoneTo.goes (n:=11) ?_;s_op;s_op;s_c stepG_region_end;s_c stepG_block;s_cond false;s_c stepG_seq;s_reg;s_op;s_c stepG_region_end;s_c stepG_ret';s_stop;exact LoneTo.done ⟨.returned (.bool false),_,rfl,⟨rfl,rfl⟩,rfl,rfl,rfl,rfl,_,func54,by simp[results,f54,Frame.at]⟩
def JK:() 54 #[.chan none] w (aJ w (.bool false)):=(CB w).mono λ_ _ ⟨h,b⟩=>⟨h,by rw[b];exact⟨aV _ _⟩⟩
end
variable{R q:Nat}{z0 z1 z2 z3 z4 z5 z6 z7:Value}
def Oa(w:aa)(N:bm)(P:List TV)(x:TV)(cap np:Nat)(cost:Int)(e:Ending)(w':aa):Prop:=
 ∃A c gs X pk hi mv,e=.returned (.tuple #[.agg #[.int .i64 (ra N P x),.slice A np c,.slice X.A X.zs.length X.c,.slice X.B X.xs.length X.d,.int .i64 pk,.int .i64 hi,.int .i64 mv,cost],an])/\Ts w' A np gs/\gs.map Tn.tv=(lw N P x).2/\TE w' X/\X.tv=(lw N P x).1.getD 0 T0/\hi<=cap/\aj w' w
variable{M:kE}{C:ju}
def BP{cp:Int}(h:mV N cp is=0):iR N=0/\(gy (dt N cp) (l6 N.nodes.length) is).1=0/\nJ (dt N cp) (gy (dt N cp) (l6 N.nodes.length) is).2=true:=by
 unfold mV at h;split at h
 .rename_i j;unfold Gz at h;split at h
  .split at h
   .rename_i b;split at h;rename_i y;exact⟨j,b,y⟩;cases h
   rename_i b;exact absurd h b
  rename_i b;exact absurd h b
 rename_i b;exact absurd h b
def Ms{a:Int×Int}{t:List (Int×Int)}(h:(gy C s (a::t)).1=0):lG C s a.1 a.2=0/\gy C s (a::t)=gy C (g4 C s a.1 a.2) t:=by
 unfold gy at h;split at h;rename_i b;exact⟨b,by rw[gy,ah b]⟩;rename_i b;exact absurd h b
theorem ho.nL(h:ho p w J g r GB M e gs X):Ts w GB J.np gs:=by
 have y:pX w p.1.size GB J.np gs:=⟨by rw[h.gl];exact h.row,λt ht=>(h.qd t ht).te,λt ht=>⟨λb hb=>⟨((h.qd t ht).oa b hb).1,λj=>((h.qd t ht).oa b hb).2.2.1 (dw.1 j).symm⟩,λb hb=>⟨((h.qd t ht).ob b hb).1,λj=>((h.qd t ht).ob b hb).2.2.1 (dw.1 j).symm⟩⟩⟩;have:=y.nL;rw[h.gl]at this;exact this
def ho.o(h:ho p w J g r GB M e gs X){ob:Nat}(y:ob<p)(j:Kf (λb=>b=ob) (λb=>b=ob) w w'):Ts w' GB J.np gs/\TE w' X:=by
 have z:=h.lC.1;refine⟨j.BK h.nL (λ_ b hb=>by have:=dw.1 hb;omega) λt ht=>⟨λb hb=>?_,λb hb=>?_⟩,j.rd h.ou.te.1 λb hb=>?_,j.rd h.ou.te.2.1 λb hb=>?_,h.ou.te.2.2⟩;have:=((h.qd t ht).oa b hb).2.2.2;omega;have:=((h.qd t ht).ob b hb).2.2.2;omega;have:=(h.ou.oa b hb).2.2.2;omega;have:=(h.ou.ob b hb).2.2.2;omega
def kf8:Kf (λb=>b=q) (λb=>b=q) u ((((((((u.setCell (q,0) z0).setCell (q,1) z1).setCell (q,2) z2).setCell (q,3) z3).setCell (q,4) z4).setCell (q,5) z5).setCell (q,6) z6).setCell (q,7) z7):=
 ((((((((Kf.refl (λb=>b=q) u).av (q:=⟨q,0,none⟩) rfl z0).av (q:=⟨q,1,none⟩) rfl z1).av (q:=⟨q,2,none⟩) rfl z2).av (q:=⟨q,3,none⟩) rfl z3).av (q:=⟨q,4,none⟩) rfl z4).av (q:=⟨q,5,none⟩) rfl z5).av (q:=⟨q,6,none⟩) rfl z6).av (q:=⟨q,7,none⟩) rfl z7
theorem BQ[aT w u](hq:w<=q):aj ((((((((u.setCell (q,0) z0).setCell (q,1) z1).setCell (q,2) z2).setCell (q,3) z3).setCell (q,4) z4).setCell (q,5) z5).setCell (q,6) z6).setCell (q,7) z7) w:=
 kf8.prev λb j=>by rw[j];exact hq
def Mt[aW w A n B m N][Ts w PA np ps][Sl w XA nx x.1][Sl w XB mx x.2][Is w K k is](z:Hx N.fits)(hs:Hx N.small)(D:Hx (bo N=0))(hP:Hx ((ps.map Tn.tv).map (·.1)=bH N))(hO:Hx (eB ps))(F:Hx (x.1=N.dV))(hr:ap x.1 x.2=true)(G:np<=1000000)(I:k<=65536)(b:cap<=16777216)
  (Q:Hx (mV N (cap:Int) is=E)) (y:E≠0):
  () 19 #[.agg #[(A,n,c),(B,m,d),(PA,np,cp),(XA,nx,cx),(XB,mx,dx),(K,k,R),cap],.chan none] w (aJ w (.tuple #[.agg #[an,(),(),(),an,an,an,an],E])):=by
 have U:=@ay;have V:=@aO;have j:=ae hr;obtain⟨⟨P1,P2,P3,P4⟩,S⟩:=kS (rf N (cap:Int) is);have Y:(E !=0)=true:=by simp[y]
 clear hr y;go_in;go_upto_region 1 with fail;refine dg (λZ p0 k1 k2=>?_);go_upto_region 2 with(go_at_call 52;refine mv (Ec z hs D hP hO F j om I b Q S) λu1 _=>?_);refine aE (λu2 T k3=>?_);go_wp2_with fail;refine aX (v:=.tuple #[.agg #[an,(),(),(),an,an,an,an],E]) ?_ rfl ⟨rfl,BQ (cz _)⟩;rw[cF rfl];go_simp
def xk0(h:Γ:=by rintro D ⟨F,r1,r2,G,I,Q,S⟩;go_simp;try(with_reducible rfl)):=h
def Ob[aW w A n B m N][Ts w PA np ps][Sl w XA nx x.1][Sl w XB mx x.2][ki:Is w K k is](hf:Hx N.fits)(hs:Hx N.small)(Z:Hx (fQ N O L l P x))(hP:Hx (ps.map Tn.tv=P))(hO:Hx (eB ps))(CD:np<=1000000)(lx:nx<=cx)(UX:mx<=dx)(lp:np<=cp)(lB:m<=d)(hk:k<=65536)(U:cap<=16777216)(hn:N.nodes.length<=200)
  (HR:Hx (mV N (cap:Int) is=0)) (HV:Hx (rf N (cap:Int) is=(P1,P2,P3,P4))):
  () 19 #[.agg #[(A,n,c),(B,m,d),(PA,np,cp),(XA,nx,cx),(XB,mx,dx),.slice K k R,cap],.chan none] w (Oa w N P x cap np P2):=by
 have CC:=@cQ;obtain⟨CB,CP,FB⟩:=ia;have HE:Hx (bo N=0):=Z.o.hE;have uz:Hx ((ps.map Tn.tv).map (·.1)=bH N):=ae (by rw[hP.o];exact Z.o.hF.ps);have HX:Hx (x.1=N.dV):=Z.o.hF.xs;have HXO:Hx (ap x.1 x.2=true):=Z.o.hF.CI.1;obtain⟨z1,z2,z3⟩:=BP HR;have HZ2:=ae z2;have HZ3:=ae z3;have zF:Hx (k=is):=ki.len;clear z1 z2 z3;go_in;go_upto_region 1 with fail;refine dg (λu0 p0 k1 k2=>?_);go_upto_region 2 with(go_at_call 52;refine mv (Ec hf hs HE uz hO HX HXO om hk U HR HV) λu1 _=>?_);refine aE (λu2 sO k3=>?_);obtain⟨sb,hsb⟩:=lg u1.1.size;rw[<-hsb]at k3⊢;have L8:Hx (w.1.size+1<sb):=ae (by rw[hsb];exact(aq:Bx u1 (w.1.size+1) _ _).ak.lt);clear hsb;go_upto_region 5 with(go_at_call 53;refine(Rb hf hs Z hP hO CD lx UX lp lB U).mono ?_;rintro e u3 ⟨p,SA,ns,sc,g,r,GB,M0,gs0,X0,rfl,pp,HB,v8,p3⟩);obtain⟨J,hJ⟩:=lg (⟨A,n,c,B,m,d,PA,np,cp,XA,nx,cx,XB,mx,dx,K,k,R,cap,l,SA,ns,sc⟩:L3);have hJl:J.l=l:=by rw[hJ]
 have HJN:Hx (J.np=np):=ae (by rw[hJ]);rw[<-hJ]at HB v8;have QR:Hx (w.1.size+1<p):=(aq:Bx p (w.1.size+1) _ _).ak.lt;clear hJ;go_wp2_with fail;go_loopw [33] (λs33 wr=>∃(j:Nat) (s:jv) (M:kE) (e:si) (gs:List Tn) (X:Tn),j<=k/\s33=.int .i64 (j:Int)/\Hx (ho p wr J g r GB M e gs X)/\Hx (gU N O L l P x (cap:Int) s e)/\Hx (gy (dt N (cap:Int)) s (is.drop j)=gy (dt N (cap:Int)) (l6 N.nodes.length) is)/\Hx (e.A.nx<=1000*j/\e.A.mv<=1000*j)/\aj wr p) (λs33 _=>k-(intOf s33).toNat);exact⟨0,l6 N.nodes.length,M0,ex0 cap P,gs0,X0,aM _,rfl,v8,ae (acD Z U),ae rfl,ae ⟨al _,al _⟩,p3⟩;obtain⟨j,s,M,e,gs,X,hj,rfl,z,HI,HG,Y,hp⟩:=hrel;clear v8 p3;by_cases bE:j<k
 .obtain⟨b1,o1,kd,id,rfl,pq,v1,v2,e1⟩:=ki.get bE;(have UN:is.drop j=(kd,id)::is.drop (j+1):=by obtain⟨h1,h2⟩:=a8.1 e1.o;rw[ed h1,h2]);have hg:=HG.o;rw[UN]at hg;obtain⟨Qk,u7⟩:=Ms (by rw[hg];exact HZ2);rw[u7]at hg;have YL:=ae Qk;have JF:=ae hg;(have qi:e.A.nx<=100000000000:=by have:=Y.o.1;omega);(have r9:e.A.mv<=100000000000:=by have:=Y.o.2;omega);(have i1:(j:Int)<(k:Int):=by omega);clear UN hg Qk u7;go_upto_region 10 with fail;refine aE (λu4 I5 k4=>?_);go_wp2_with (first|(go_at_call 54;refine mv JK λu5 _=>?_)|(go_at_call 55;refine(abj (p:=p) HB Z hJl HI (z.o.at (w':=u5)) YL hn qi r9).mono ?_;rintro e9 u9 ⟨rfl,m5,e5,gs5,X5,H1,H2,H3,H4⟩));go_roundw;exact⟨j+1,_,m5,e5,gs5,X5,om,by go_num,H1,H2,JF,ae ⟨by have:=H3.o.1;have:=Y.o.1;omega,by have:=H3.o.2;have:=Y.o.2;omega⟩,H4⟩;simp[intOf];omega
 obtain rfl:j=k:=om;have hG:=HG.o;rw[eF (by rw[<-zF.o];exact al _),gy]at hG;have hw:nJ (dt N (cap:Int)) s=true:=by have:=HZ3.o;rw[<-hG]at this;exact this
 obtain⟨f1,f2,f3⟩:=HI.o.whole Z hw;have Mk:Hx (e.lo=ra N P x):=f1;have QJ:=ae f2;have HF3:=ae f3;have HHI:Hx ((e.A.hi:Int)<=(cap:Int)):=ae (by have:=HI.o.mb.ar.hi;have:=HI.o.cap;omega);clear hG hw f1 f2 f3;obtain⟨wx,rfl⟩:=lg wr;have c8:Cl wx g 8 (.pointer r):=z.o.ms.cl z.o.cs.c8;have c17:Cl wx g 17 (.int .i64 e.lo):=z.o.ms.cl z.o.lo;have c18:Cl wx g 18 (.slice GB J.np J.np):=z.o.ms.cl z.o.gr;have c19:Cl wx g 19 (.slice X.A X.zs.length X.c):=z.o.ms.cl z.o.x0;have c20:Cl wx g 20 (.slice X.B X.xs.length X.d):=z.o.ms.cl z.o.x1;have PK:Cl wx sb 1 P2:=⟨(k3.ak.at (w':=wx)).cell 1⟩;go_upto_region 16 with fail;refine a6 w (λw9=>Cl w9 g 8 (.pointer r)/\Cl w9 g 17 (.int .i64 e.lo)/\Cl w9 g 18 (.slice GB J.np J.np)/\Cl w9 g 19 (.slice X.A X.zs.length X.c)/\Cl w9 g 20 (.slice X.B X.xs.length X.d)/\Cl w9 sb 1 P2) ao ⟨aq,aq,aq,aq,aq,aq⟩ (λy _=>?_);refine b9 (i:=0) (d:=48) (v:=?_) rfl rfl ao ao ao (λ_ _ _ h=>h) ao ⟨aF,⟨aq,aq,aq,aq,aq,aq⟩⟩ ?_ ?_;rotate_left;exact xk0;try simp only[List.set]
 refine b9 (i:=1) (d:=49) (v:=?_) rfl rfl ao ao ao (λ_ _ _ h=>h) ao ⟨aF,⟨aq,aq,aq,aq,aq,aq⟩⟩ ?_ ?_;rotate_left;exact xk0;try simp only[List.set]
 refine b9 (i:=2) (d:=50) (v:=?_) rfl rfl ao ao ao (λ_ _ _ h=>h) ao ⟨aF,⟨aq,aq,aq,aq,aq,aq⟩⟩ ?_ ?_;rotate_left;exact xk0;try simp only[List.set]
 refine b9 (i:=3) (d:=51) (v:=?_) rfl rfl ao ao ao (λ_ _ _ h=>h) ao ⟨aF,⟨aq,aq,aq,aq,aq,aq⟩⟩ ?_ ?_;rotate_left;exact xk0;try simp only[List.set]
 refine b9 (i:=4) (d:=52) (v:=?_) rfl rfl ao ao ao (λ_ _ _ h=>h) ao ⟨aF,⟨aq,aq,aq,aq,aq,aq⟩⟩ ?_ ?_;rotate_left;exact xk0;try simp only[List.set]
 refine b9 (i:=5) (d:=53) (v:=?_) rfl rfl ao ao ao (λ_ _ _ h=>h) ao ⟨aF,⟨aq,aq,aq,aq,aq,aq⟩⟩ ?_ ?_;rotate_left;exact xk0;try simp only[List.set]
 refine b9 (i:=6) (d:=54) (v:=?_) rfl rfl ao ao ao (λ_ _ _ h=>h) ao ⟨aF,⟨aq,aq,aq,aq,aq,aq⟩⟩ ?_ ?_;rotate_left;exact xk0;try simp only[List.set]
 refine b9 (i:=7) (d:=55) (v:=?_) rfl rfl ao ao ao (λ_ _ _ h=>h) ao ⟨aF,⟨aq,aq,aq,aq,aq,aq⟩⟩ ?_ ?_;rotate_left;exact xk0;try simp only[List.set]
 refine b9 (i:=9) (d:=57) (v:=?_) rfl rfl ao ao ao (λ_ _ _ h=>h) ao ⟨aF,⟨aq,aq,aq,aq,aq,aq⟩⟩ ?_ ?_;rotate_left;exact xk0;try simp only[List.set]
 refine b9 (i:=10) (d:=58) (v:=?_) rfl rfl ao ao ao (λ_ _ _ h=>h) ao ⟨aF,⟨aq,aq,aq,aq,aq,aq⟩⟩ ?_ ?_;rotate_left;exact xk0;try simp only[List.set]
 refine b9 (i:=11) (d:=59) (v:=?_) rfl rfl ao ao ao (λ_ _ _ h=>h) ao ⟨aF,⟨aq,aq,aq,aq,aq,aq⟩⟩ ?_ ?_;rotate_left;exact xk0;try simp only[List.set]
 refine b9 (i:=12) (d:=60) (v:=?_) rfl rfl ao ao ao (λ_ _ _ h=>h) ao ⟨aF,⟨aq,aq,aq,aq,aq,aq⟩⟩ ?_ ?_;rotate_left;exact xk0;try simp only[List.set]
 refine b9 (i:=14) (d:=62) (v:=?_) rfl rfl ao ao ao (λ_ _ _ h=>h) ao ⟨aF,⟨aq,aq,aq,aq,aq,aq⟩⟩ ?_ ?_;rotate_left;exact xk0;try simp only[List.set]
 refine b9 (i:=15) (d:=63) (v:=?_) rfl rfl ao ao ao (λ_ _ _ h=>h) ao ⟨aF,⟨aq,aq,aq,aq,aq,aq⟩⟩ ?_ ?_;rotate_left;exact xk0;try simp only[List.set]
 refine b9 (i:=16) (d:=64) (v:=?_) rfl rfl ao ao ao (λ_ _ _ h=>h) ao ⟨aF,⟨aq,aq,aq,aq,aq,aq⟩⟩ ?_ ?_;rotate_left;exact xk0;try simp only[List.set]
 refine b9 (i:=17) (d:=65) (v:=?_) rfl rfl ao ao ao (λ_ _ _ h=>h) ao ⟨aF,⟨aq,aq,aq,aq,aq,aq⟩⟩ ?_ ?_;rotate_left;exact xk0;try simp only[List.set]
 refine b9 (i:=19) (d:=67) (v:=?_) rfl rfl ao ao ao (λ_ _ _ h=>h) ao ⟨aF,⟨aq,aq,aq,aq,aq,aq⟩⟩ ?_ ?_;rotate_left;exact xk0;try simp only[List.set]
 refine b9 (i:=20) (d:=68) (v:=?_) rfl rfl ao ao ao (λ_ _ _ h=>h) ao ⟨aF,⟨aq,aq,aq,aq,aq,aq⟩⟩ ?_ ?_;rotate_left;exact xk0;try simp only[List.set]
 refine aK 8 λK hK=>?_;go_simp;refine(R6 (z.o.at (w':=y)).ms.ar).mono ?_;rintro e y ⟨rfl,_⟩;dsimp only;refine aG hK ?_ ⟨aR w _,⟨aq,aq,aq,aq,aq,aq⟩⟩;refine aK 13 λK hK=>?_;go_simp;refine(R7 (z.o.at (w':=y)).ms.ar).mono ?_;rintro e y ⟨rfl,_⟩;dsimp only;refine aG hK ?_ ⟨aR w _,⟨aq,aq,aq,aq,aq,aq⟩⟩;refine aK 18 λK hK=>?_;go_simp;refine(Oy (z.o.at (w':=y)).ms.ar).mono ?_;rintro e y ⟨rfl,_⟩;dsimp only;refine aG hK ?_ ⟨aR w _,⟨aq,aq,aq,aq,aq,aq⟩⟩;refine b9 (i:=21) (d:=69) (v:=?_) rfl rfl ao ao ao (λ_ _ _ h=>h) ao ⟨aF,⟨aq,aq,aq,aq,aq,aq⟩⟩ ?_ ?_;rotate_left;exact xk0;try simp only[List.set]
 refine aK 22 λK hK=>?_;go_simp;obtain⟨u8,T⟩:=lg ((((((((y.setCell (w.1.size+1,0) (.int .i64 e.lo)).setCell (w.1.size+1,1) (.slice GB J.np J.np)).setCell (w.1.size+1,2) (.slice X.A X.zs.length X.c)).setCell (w.1.size+1,3) (.slice X.B X.xs.length X.d)).setCell (w.1.size+1,4) (e.A.pe:Int)).setCell (w.1.size+1,5) (e.A.hi:Int)).setCell (w.1.size+1,6) (e.A.mv:Int)).setCell (w.1.size+1,7) P2);rw[<-T];have HT:Hx (Ts u8 GB J.np gs/\TE u8 X):=ae ((z.o.at (w':=y)).o QR (by rw[T];exact kf8));have IW:aj u8 w:=by rw[T];exact BQ (cz _)
 have K8:Bx u8 (w.1.size+1) 69 _:=⟨by rw[T];exact((((((((Bx.ak (w:=y) (g:=w.1.size+1)).av 0 _).av 1 _).av 2 _).av 3 _).av 4 _).av 5 _).av 6 _).av 7 _⟩;have S8:∀b,b<y.1.size->b≠w.1.size+1->u8.heap[b]?=y.heap[b]?:=(by rw[T];exact kf8:Kf (λb=>b=w.1.size+1) (λb=>b=w.1.size+1) y u8).keep;have V:u8.heap[g]?=y.heap[g]?:=S8 g (z.o.at (w':=y)).ms.old.lt (by have:=QR.o;have:=z.o.lC.2.2.1;omega);have hs8:u8.heap[sb]?=y.heap[sb]?:=S8 sb (bu k3.ak.lt ai) (by have:=L8.o;omega);clear T S8;have e8:Cl u8 g 8 _:=⟨(d9 V).trans (Cl.eq (w:=y))⟩;have e17:Cl u8 g 17 _:=⟨(d9 V).trans (Cl.eq (w:=y))⟩;have e18:Cl u8 g 18 _:=⟨(d9 V).trans (Cl.eq (w:=y))⟩;have e19:Cl u8 g 19 _:=⟨(d9 V).trans (Cl.eq (w:=y))⟩;have e20:Cl u8 g 20 _:=⟨(d9 V).trans (Cl.eq (w:=y))⟩;have e21:Cl u8 sb 1 _:=⟨(d9 hs8).trans (Cl.eq (w:=y))⟩;refine aG hK ?_ ⟨IW,e8,e17,e18,e19,e20,e21⟩;refine b9 (i:=23) (d:=5) (v:=?_) rfl rfl ao ao ao (λ_ _ _ h=>h) ao ⟨aF,⟨aq,aq,aq,aq,aq,aq⟩⟩ ?_ ?_;rotate_left;exact xk0;try simp only[List.set]
 refine a9 ?_;go_wp2_with fail;obtain⟨t1,t2⟩:=HT.o;refine aX (v:=.tuple #[.agg #[.int .i64 (ra N P x),(GB,np,np),.slice X.A X.zs.length X.c,.slice X.B X.xs.length X.d,e.A.pe,e.A.hi,e.A.mv,P2],an]) ?_ rfl ⟨_,_,gs,X,_,_,_,rfl,by rw[<-HJN.o];exact t1,by rw[z.o.gv,QJ.o],t2,by rw[z.o.xv,HF3.o],HHI,IW⟩;rw[cF rfl];go_simp;rw[Mk.o,HJN.o];exact⟨rfl,rfl⟩
variable{X:World}{T T2 T3:TypeId}{b1 b2:Nat}
def Ro{Q:World->Prop}{T0 j b l r y:TypeId}{c0 c1 c2 c3 c4 e m c7 c8:m0}
  (h:∀u,aj u X->Bx u X.1.size T0 c0->Bx u (X.1.size+1) T c1->Bx u (X.1.size+1+1) T2 c2->Bx u (X.1.size+1+1+1) T3 c3->Bx u (X.1.size+1+1+1+1) j c4->Bx u (X.1.size+1+1+1+1+1) b e->Bx u (X.1.size+1+1+1+1+1+1) l m->Bx u (X.1.size+1+1+1+1+1+1+1) r c7->Bx u (X.1.size+1+1+1+1+1+1+1+1) y c8->Q u):
  Q (((((((((X.alloc (.cells c0 T0)).alloc (.cells c1 T)).alloc (.cells c2 T2)).alloc (.cells c3 T3)).alloc (.cells c4 j)).alloc (.cells e b)).alloc (.cells m l)).alloc (.cells c7 r)).alloc (.cells c8 y)):=by
 have z:Bx ((((((X.alloc (.cells c0 T0)).alloc (.cells c1 T)).alloc (.cells c2 T2)).alloc (.cells c3 T3)).alloc (.cells c4 j)).alloc (.cells e b)) (X.1.size+1+1+1+1+1) b e:=⟨az.ew _ _ _ aD⟩;have i6:Bx (((((((X.alloc (.cells c0 T0)).alloc (.cells c1 T)).alloc (.cells c2 T2)).alloc (.cells c3 T3)).alloc (.cells c4 j)).alloc (.cells e b)).alloc (.cells m l)) (X.1.size+1+1+1+1+1+1) l m:=⟨az.ew _ _ _ aD⟩;have B:Bx ((((((((X.alloc (.cells c0 T0)).alloc (.cells c1 T)).alloc (.cells c2 T2)).alloc (.cells c3 T3)).alloc (.cells c4 j)).alloc (.cells e b)).alloc (.cells m l)).alloc (.cells c7 r)) (X.1.size+1+1+1+1+1+1+1) r c7:=⟨az.ew _ _ _ aD⟩;have i8:Bx (((((((((X.alloc (.cells c0 T0)).alloc (.cells c1 T)).alloc (.cells c2 T2)).alloc (.cells c3 T3)).alloc (.cells c4 j)).alloc (.cells e b)).alloc (.cells m l)).alloc (.cells c7 r)).alloc (.cells c8 y)) (X.1.size+1+1+1+1+1+1+1+1) y c8:=⟨az.ew _ _ _ aD⟩;exact h _ (aF) aq aq aq aq aq aq aq aq aq
variable{b3 b4 b5 b6 b7:Nat}
def xk3(h:Γ:=by rcases j with _|_|_|_|_|_|_|_|_|_|j<;>first|(exact(e.ak.cell _).trans b)|simp[PQ]at b):=h
theorem Zu(k0:Bx u R 3 #[(2:Int)])(k1:Bx u b1 3 #[an])(k2:Bx u b2 3 #[(2:Int),(2:Int)])(y:Bx u b3 3 #[(2:Int)])(l:Bx u b4 25 #[(b2,2,2),(b3,1,1)])(z:Bx u b5 3 #[(1:Int),(1:Int)])(k6:Bx u b6 3 #[(2:Int)])
  (e:Bx u b7 84 #[(8:Int),an,an,an,an,an,an,(),(b1,1,1),(b4,2,2),(7:Int),an,an,an,an,an,an,(),(b5,2,2),(),(12:Int),an,(2:Int),(1:Int),an,an,an,(),(b6,1,1),()]):
  aW u R 1 (some ⟨b7,0,none⟩) 3 fE:=by
 have hs:dZ u b4 2 [⟨some ⟨b2,0,none⟩,2,2,[2,2]⟩,⟨some ⟨b3,0,none⟩,1,1,[2]⟩]:=⟨λj x b=>by
  rcases j with _|_|j
  .obtain rfl:=cH b;exact⟨b4,0,rfl,l.ak.lt,l.ak.cell 0,(Sl.M0 (h:=k2)).rd,rfl,al _⟩
  .obtain rfl:=cH b;exact⟨b4,0,rfl,l.ak.lt,l.ak.cell 1,(Sl.yS (h:=y)).rd,rfl,al _⟩
  .simp at b,rfl⟩
 have r:dZ u none 0 []:=⟨λj x b=>by simp at b,rfl⟩;refine⟨Sl.yS (h:=k0),⟨[⟨⟨8,0,0,0,0,0,0,[]⟩,none,0,0,some ⟨b1,0,none⟩,1,1,[0],some ⟨b4,0,none⟩,2,2,[⟨some ⟨b2,0,none⟩,2,2,[2,2]⟩,⟨some ⟨b3,0,none⟩,1,1,[2]⟩]⟩,⟨⟨7,0,0,0,0,0,0,[]⟩,none,0,0,some ⟨b5,0,none⟩,2,2,[1,1],none,0,0,[]⟩,⟨⟨12,0,2,1,0,0,0,[]⟩,none,0,0,some ⟨b6,0,none⟩,1,1,[2],none,0,0,[]⟩],λj x b=>?_,rfl⟩,rfl⟩;have m:bb 0:=⟨am,am⟩;rcases j with _|_|_|j;obtain rfl:=cH b;refine⟨b7,0,rfl,e.ak.lt,λj v b=>?_,Sl.empty,Sl.yS (h:=k1),hs,al _,al _,al _,m⟩;exact xk3;obtain rfl:=cH b;refine⟨b7,0,rfl,e.ak.lt,λj v b=>?_,Sl.empty,Sl.M0 (h:=z),r,al _,al _,al _,m⟩;exact xk3;obtain rfl:=cH b;refine⟨b7,0,rfl,e.ak.lt,λj v b=>?_,Sl.empty,Sl.yS (h:=k6),r,al _,al _,al _,m⟩;exact xk3;simp at b
def xk4(h:Γ:=by decide+kernel):=h
def kG:() 8 #[] w (aJ w (.bool true)):=by
 obtain⟨CB,CP,FB⟩:=ia;go_in;go_upto_region 2 with fail;refine Ro (λu0 p0 k0 k1 k2 k3 k4 k5 k6 k7 k8=>?_);have a0:=Zu k0 k1 k2 k3 k4 k5 k6 k7;have l:Hx fE.fits:=V4;have r:Hx fE.small:=Rl;have j:Hx (bo fE=0):=BI;have F1:∀W:World,() 26 #[(1:Int)] W (λe w'=>e=.returned (4294967296:Int)/\W=w'):=λW=>oB 1 W;have F2:∀W:World,() 26 #[(2:Int)] W (λe w'=>e=.returned (8589934592:Int)/\W=w'):=λW=>oB 2 W;have F3:∀W:World,() 26 #[(3:Int)] W (λe w'=>e=.returned (12884901888:Int)/\W=w'):=λW=>oB 3 W;have F4:∀W:World,() 26 #[(4:Int)] W (λe w'=>e=.returned (17179869184:Int)/\W=w'):=λW=>oB 4 W;have F5:∀W:World,() 26 #[.int .i64 (-1)] W (λe w'=>e=.returned (-4294967296:Int)/\W=w'):=λW=>oB (-1) W;have f1:=ae F1;have f2:=ae F2;have f3:=ae F3;have f4:=ae F4;have f5:=ae F5;clear F1 F2 F3 F4 F5;have i1:cv [4294967296,8589934592,12884901888,17179869184]:=⟨by unfold bb;decide⟩;have i2:cv [0,4294967296]:=⟨by unfold bb;decide⟩;go_upto_region 3 with(first|(go_at_call 26;first|(refine(f1.o _).mono ?_;rintro e z ⟨rfl,rfl⟩)|(refine(f2.o _).mono ?_;rintro e z ⟨rfl,rfl⟩)|(refine(f3.o _).mono ?_;rintro e z ⟨rfl,rfl⟩)|(refine(f4.o _).mono ?_;rintro e z ⟨rfl,rfl⟩))|(go_at_call 25;refine(rJ (zs:=[2,2]) (xs:=[4294967296,8589934592,12884901888,17179869184]) om om xk4).mono ?_;rintro e u1 ⟨A1,c1,B1,d1,rfl,UU,UV,M,lX1,fA1,fX1,sQ⟩));refine aE (λv1 pv1 kw=>?_);go_upto_region 4 with(first|(go_at_call 26;refine(f1.o _).mono ?_;rintro e z ⟨rfl,rfl⟩)|(go_at_call 25;refine(rJ (zs:=[2]) (xs:=[0,4294967296]) om om xk4).mono ?_;rintro e u2 ⟨A2,c2,B2,d2,rfl,pJ,l4,N,lX2,fA2,fX2,sO⟩));refine aE (λv2 PJ kb=>?_);go_upto_region 5 with(first|(go_at_call 26;first|(refine(f1.o _).mono ?_;rintro e z ⟨rfl,rfl⟩)|(refine(f5.o _).mono ?_;rintro e z ⟨rfl,rfl⟩))|(go_at_call 25;refine(rJ (zs:=[2]) (xs:=[4294967296,-4294967296]) om om xk4).mono ?_;rintro e u3 ⟨A3,c3,B3,d3,rfl,sA3,sX3,O,P,fA3,fX3,Vp⟩));refine aE (λv3 pv3 kx=>?_);obtain⟨y,Q⟩:=lh u9.length;have S:y<=65536:=by rw[<-Q];decide
 have L:=ae Q;clear Q
 have M1:∀(u:aa) (A B:bF) (n m c d:Nat) [aW u A n B m fE],m<=12->() 17 #[.agg #[.slice A n c,.slice B m d],(1:Int),(100:Int)] u (p5 u 1 u9 7 8 0 7 0):=λu A B n m c d _ b=>
  BG l r am (ae λu _=>Mn l r b (ae V5.1) (ae V5.2)) am j rfl (ae nQ.1) (ae nQ.2)
 have M2:∀(u:aa) (A B:bF) (n m c d:Nat) [aW u A n B m fE],m<=12->() 17 #[.agg #[.slice A n c,.slice B m d],(2:Int),(100:Int)] u (p5 u 2 u9 7 8 0 7 0):=λu A B n m c d _ b=>
  BG l r am (ae λu _=>Mo l r j b (ae V6.1) (ae V6.2)) am j rfl (ae nQ.1) (ae nQ.2)
 have M3:∀(u:aa) (A B:bF) (n m c d:Nat) [aW u A n B m fE],m<=12->() 17 #[.agg #[.slice A n c,.slice B m d],(3:Int),(100:Int)] u (p5 u 3 u9 7 8 0 7 0):=λu A B n m c d _ _=>
  BG l r am (ae λu _=>Mp l r V1 (ae Mq.1) (ae Mq.2.1) (ae Mq.2.2)) am j rfl (ae nQ.1) (ae nQ.2)
 have M4:∀(u:aa) (A B:bF) (n m c d:Nat) [aW u A n B m fE],() 17 #[.agg #[.slice A n c,.slice B m d],(4:Int),(100:Int)] u (aJ u (Jz 27)):=λu A B n m c d _=>
  GS l r (ae λu _=>CO l r abf am) j am
 have C:∀(u:aa) (A B:bF) (n m c d:Nat) [aW u A n B m fE],m<=12->() 27 #[.agg #[.slice A n c,.slice B m d],(100:Int)] u (p5 u 1 u9 7 8 0 7 0):=λu A B n m c d _ b=>
  Rm l r j (ae λu _=>M1 u A B n m c d b) (ae λu _=>M2 u A B n m c d b) am (ae λu _=>M3 u A B n m c d b) am (ae λu _=>M4 u A B n m c d) am L L
 have D:=ae C;clear M1 M2 M3 M4 C;go_upto_region 6 with(go_at_call 27;refine(D.o _ _ _ _ _ _ _ om).mono ?_;rintro e u4 ⟨AC,cC,rfl,oC,I5⟩;rw[L.o]);refine aE (λv4 pv4 kp=>?_);have iC:Is v4 AC y u9:=⟨(ce.at (w':=v4) oC).rd,L.o.symm⟩;have HC:Hx (fQ fE [1,2,3] [[2],[2],[2],[1]] 3 BH xL):=Zi;have U:Hx (mV fE ((100:Nat):Int) u9=0):=nQ.1;have V:Hx (rf fE ((100:Nat):Int) u9=(7,8,0,7)):=nQ.2
 have E:∀(u:aa) (A B PA XA XB K:bF) (n m c d np cp nx cx mx dx kc:Nat) (ps:List Tn) [aW u A n B m fE] [Ts u PA np ps] [Sl u XA nx xL.1] [Sl u XB mx xL.2] [Is u K y u9],ps.map Tn.tv=BH->eB ps->np<=1000000->nx<=cx->mx<=dx->np<=cp->m<=d->
   () 19 #[.agg #[.slice A n c,.slice B m d,.slice PA np cp,.slice XA nx cx,.slice XB mx dx,.slice K y kc,(100:Int)],.chan none] u (Oa u fE BH xL 100 np 8):=λu A B PA XA XB K n m c d np cp nx cx mx dx kc ps _ _ _ _ _ h1 h2 h3 h4 h5 Y Z=>
  Ob (cap:=100) l r HC h1 h2 h3 h4 h5 Y Z S am am U V
 have F:=ae E;have sx3:Sl v4 A3 1 xL.1:=(aq:Sl v4 A3 1 [2]);have sy3:Sl v4 B3 2 xL.2:=(aq:Sl v4 B3 2 [4294967296,-4294967296]);have Fo:Hx (([⟨A1,c1,[2,2],B1,d1,[4294967296,8589934592,12884901888,17179869184]⟩,⟨A2,c2,[2],B2,d2,[0,4294967296]⟩]:List Tn).map Tn.tv=BH):=rfl;have lZ:Hx (eB [⟨A1,c1,[2,2],B1,d1,[4294967296,8589934592,12884901888,17179869184]⟩,⟨A2,c2,[2],B2,d2,[0,4294967296]⟩]):=λt ht=>by simp only[cw,nR,o2]at ht;rcases ht with rfl|rfl;exact⟨show ap [2,2] [4294967296,8589934592,12884901888,17179869184]=true from by decide+kernel,M.le⟩;exact⟨show ap [2] [0,4294967296]=true from by decide+kernel,N.le⟩
 have If:1<=c3:=O.le;have Zv:2<=d3:=P.le;clear E;go_upto_region 7 with(go_at_call 19;refine(F.o _ _ _ _ _ _ _ _ _ _ _ _ _ _ _ _ _ _ _ Fo lZ om If Zv om om).mono ?_;rintro e u6 ⟨AG,cG,gs,X,pk,hi,mv,rfl,tG,hG,-,-,-,pu6⟩;rw[acJ]);obtain⟨tg0,z0,G⟩:=acK;rw[G]at hG;obtain⟨bg,og,Ag,cg,zg,Bg,dg,xg,rfl,obg,cg0,cg1,sg1,sg2,-,-,I⟩:=tG.get (k:=1) om;have hxg:zg=[2]/\xg=[-4294967296,z0]:=by (have h9:(gs.map Tn.tv)[1]?=some (zg,xg):=by rw[bf,I.o];rfl);rw[hG]at h9;have h8:(([2],[-4294967296,z0]):TV)=(zg,xg):=cH h9;injection h8 with Y Z;exact⟨Y.symm,Z.symm⟩
 obtain⟨rfl,rfl⟩:=hxg;obtain⟨bh,oh,zh,rfl,obh,Ww,J⟩:=sg2.get (k:=0) aD;obtain rfl:(-4294967296:Int)=zh:=cH J.o;rw[ef]at Ww;have G1:Hx (∀W:World,() 26 #[(1:Int)] W (aJ W (4294967296:Int))):=λW=>(f1.o W).mono λ_ w' ⟨h,e⟩=>⟨h,by rw[e];exact⟨aV _ _⟩⟩;have G5:Hx (∀W:World,() 26 #[.int .i64 (-1)] W (aJ W (-4294967296:Int))):=λW=>(f5.o W).mono λ_ w' ⟨h,e⟩=>⟨h,by rw[e];exact⟨aV _ _⟩⟩;clear hG G I J tG;refine aE (λv6 pv6 ko=>?_);have hw9:IntKind.i64.wrap 2147483648=2147483648:=by rw[a7];omega
 go_upto_region 7 with fail;refine ab v6 ao (λux _=>?_);refine qL [0,1,2,3,4,5,6,7,8,9] ?_;refine aK 10 λK hK=>?_;go_simp;refine(G1.o _).mono ?_;rintro e ux ⟨rfl,_⟩;dsimp only;refine aG hK ?_;refine qL [11,12,13,14,15,16,17,18,19,20,21,22,23,24,25,26,27,28,29,30,31,32,33,34,35,36,37,38,39] ?_;refine aK 40 λK hK=>?_;go_simp;refine(G5.o _).mono ?_;rintro e ux ⟨rfl,_⟩;dsimp only;refine aG hK ?_;refine qL [41,42,43] ?_;refine a9 ?_;go_wp2_with fail;go_ret;exact⟨rfl,aR w _⟩
section
variable{cs:Array Value}{ops:Array Oper}{a:Act}{K:Act->World->Prop}{Q:Exit->Act->World->Prop}
def gz:List Int->List (Int×Int)
 |a::b::c::t=>(a,b*256+c)::gz t
 |_=>[]
def vd(bs:au):Int:=if bs.length%3=0 then e7 (gz bs)else 16
def JL(bs:au):List (Int×Int):=if vd bs=0 then gz bs else[]
variable{bs:List Int}{V:List (Int×Int)}
def Mu(k:Nat)(j:k<=100000)(W:aa):(Instr.makeSlice 50 an (k:Int)).run prog W=.ok (W,0,k) (W.alloc (.cells (madeCells #[an,an] (k*2)) 98)):=by
 obtain⟨i,hi,b⟩:=bt.1 (show(prog.info? 98).map (λi=>(i.zero,i.size,i.bytes))=some (some (.agg #[an,an]),2,16)from by kernel_rfl);simp only[eP]at b;obtain⟨e,hs,hb⟩:=b;have:=lQ (P:=prog) W 50 98 i _ underlying50 hi e .i64 .i64 0 k (eI _) om (by rw[hs];simp;omega) (by rw[hb];simp;omega);rw[hs]at this;simpa[Value.cells]using this om
def Mv{Q:World->Prop}(h:∀u,aj u X->Bx u X.1.size T cs->Q u):Q (X.alloc (.cells cs T)):=h _ (aF) aq
def Mw{w:aa}(I:TypeId)(B:Nat)(A:bF)(c:Nat)(ps:List (Int×Int))(b:ce w B A c ps)(g:Nat)(y z:Int)(J:az w g 98 #[y,z])(K:ps.length<=1000000000)(L:B<=w):
  ∃M N w',(Builtin.append_ #[50,50] I #[.slice A ps c,(g,1,1)]).run prog w=.ok (.slice M (ps.length+1) N) w'/\
   ce w' B M N (ps++[(y,z)])/\Below B w w'/\w.1.size<=w'.1.size:=by
 have e:(prog.info? 98).map (λi=>(i.zero,i.size,i.bytes))=some (some (.agg #[an,an]),2,16):=ao;obtain⟨i,hi,m⟩:=bt.1 e;simp only[eP]at m;obtain⟨r,C,D⟩:=m
 have R:=xW (P:=prog) w B 50 I 98 i _ 2 16 underlying50 hi r C D rfl am _ _ _ b ⟨g,0,none⟩ 1 1 [.int .i64 y,.int .i64 z] rfl
  (λj u hu=>by
   have Q:j=0\/j=1:=by
    have:=(a8.1 hu).1;simp at this;omega
   rcases Q with rfl|rfl
   .simp at hu;subst hu;simpa[Addr.add]using J.cell 0
   .simp at hu;subst hu;simpa[Addr.add]using J.cell 1) (by simp[Value.oneCell']) (by unfold maxLen;omega) om L
 obtain⟨S,w',hr,l,hg,-,-⟩:=R;have T:(ps++[(y,z)]).length=ps+1:=aD;rcases l.2 with⟨hv,hn⟩|⟨g,cap,U,hv,X,Y,Z,WT,JT,WU⟩;omega;have F:S=.slice g (ps.length+1) cap:=hv;rw[F]at l hr;refine⟨_,_,w',hr,?_,?_,hg.size⟩;unfold ce;rw[T,i7];exact l;refine(aV B w).grown hg L ?_;intro k O;have:Value.ownBlock (.slice A ps c)=A.map (·.block):=by cases A<;>rfl
 rw[this]at O;obtain⟨ad,G,rfl⟩:=bt.1 O;exact b.fresh ad G
def JM{w:aa}{o:Oper}(m:Region.wanted o (yielded ops a.tmps)=true)(s x:Operand)
  (r:o.op=.call {callee:=.builtin .append,args:= #[s,x],argTypes:= #[50,50]})
  (B:Nat) (A:bF) (c:Nat) (ps:List (Int×Int)) (hs:a.eval s=.slice A ps c) (b:ce w B A c ps) (g:Nat) (y z:Int)
  (u:a.eval x=.slice g 1 1) (hp:az w g 98 #[y,z]) (e:ps.length<=1000000000) (C:B<=w)
  (h:∀j l w',ce w' B j l (ps++[(y,z)])->Below B w w'->K (a.put o.dst (.slice j (ps.length+1) l)) w'):
  if Region.wanted o (yielded ops a.tmps)=true then Oper.wp prog o a w K Q else K (a.put o.dst undef) w:=by
 rw[ah m];obtain⟨j,l,w',hr,D,F,G⟩:=Mw o.type B A c ps b g y z hp e C;unfold Oper.wp execOp;simp only[r,resolve,invoke,builtin,x8,xZ,xR,xO,di,jz,hs,u,hr];exact h j l w' D F
def Ed:∀(k:Nat) (bs:au),bs=3*k->(gz bs).length=k
 |0,bs,h=>by have:bs=[]:=hB om;subst this;rfl
 |k+1,bs,h=>
  by
   match bs,h with
   |a::b::c::t,h=>rw[gz,dj,Ed k t (by simp at h;omega)]
def Mx(k:Nat)(bs:au)(h:3*k+3<=bs):∃a b c,bs[3*k]?=some a/\bs[3*k+1]?=some b/\bs[3*k+2]?=some c/\gz (bs.drop (3*k))=(a,b*256+c)::gz (bs.drop (3*(k+1))):=by
 refine⟨_,_,_,a5 om,a5 om,a5 om,?_⟩;rw[ed om,ed om,ed om,gz];rfl
def xk1(h:Γ:=by
 by_cases B:E=0
 .subst B;(have hv:gz bs=V:=by have:=y.o;rwa[ah rfl]at this);have m:=ae hv;clear hv;go_wp2_with (go_at_call 33;refine mv (h9 om r) λU _=>?_);go_ret2;exact⟨_,_,by rw[<-m.o,l.o];rfl,by rw[<-m.o];exact J.o.at,aF⟩
 have hv:[]=V:=by have:=y.o;rwa[ag B]at this
 subst hv;have X:(E !=0)=true:=by simp[B]
 clear B;go_wp2_with (go_at_call 33;refine mv (h9 om r) λU _=>?_);go_ret2;exact⟨none,0,rfl,ce.nil _ _,aF⟩):=h
def Rp[b:Bs w A n bs](hn:n<=900)(D:Hx (vd bs=E))(S:Hx (JL bs=V)):
  () 13 #[.slice A n c] w λe w'=>∃A c,e=.returned (.tuple #[.slice A V c,E])/\ce w' w.1.size A c V/\aj w' w:=by
 have CP:=@bW;have L:Hx (n=bs):=b.len;go_in;by_cases h3:n%3=0
 .obtain⟨k,rfl⟩:∃k,n=3*k:=⟨n/3,om⟩;(have hq:((3*k:Nat):Int)/3=(k:Int):=by omega);have hr:((3*k:Nat):Int)%3=0:=om;(have XE:decide ((65536:Int)<(k:Int))=false:=by simp;omega);(have hE:e7 (gz bs)=E:=by rw[<-D.o,vd,ah (by rw[<-L.o];exact h3)]);have M:(gz bs).length=k:=Ed k bs L.o.symm;(have hV:(if E=0 then gz bs else[])=V:=by rw[<-S.o,JL,D.o]);have T:∀W:World,(Instr.makeSlice 50 an (k:Int)).run prog W=.ok (.slice (some ⟨W.1.size,0,none⟩) 0 k) (W.alloc (.cells (madeCells #[an,an] (k*2)) 98)):=λW=>Mu k om W;have r:=ae hE;have y:=ae hV;have l:=ae M;have D:=D;clear hE hV M;go_wp2_with fail;refine Mv (λv _ kv=>?_);have z:ce v w.1.size w k []:=aU.mk' (k:=2) (al _) kv.ak (aM _) (by unfold maxLen;omega) (size_madeCells _ _) (by simp[ic]);clear T kv;have fin:∀wz u (I:bF) (N:Nat),ce wz w.1.size I N (gz bs)->aj wz w->aj u wz->aT w u->True:=λ_ _ _ _ _ _ _ _=>bX;clear fin;by_cases k0:k=0
  .subst k0;have O:gz bs=[]:=hB l;have J:Hx (ce v w.1.size w 0 (gz bs)):=ae (by rw[O];exact z);clear z O;go_loopw [4,5] (λt i wr=>t=.slice w.1.size 0 0/\i=.int .i64 0/\wr=v) (λ_ _ _=>0);exact⟨rfl,rfl,rfl⟩;obtain⟨rfl,rfl,rfl⟩:=hrel;have iS:Is wr w (0) (gz bs):=⟨J.o.rd,l.o.symm⟩;exact xk1
  obtain⟨X,q0,z0,Y,-⟩:=b.get (show 0<3*k by omega);subst Y;go_loopw [4,5] (λt i wr=>∃(j x:Nat) (I:bF) (N:Nat) (ps:List (Int×Int)),j<=k/\Hx (x=3*j)/\t=.slice I j N/\i=.int .i64 (x:Nat)/\Hx (ps=j)/\Hx (ce wr w.1.size I N ps)/\Hx (ps++gz (bs.drop (3*j))=gz bs)/\aj wr w) (λ_ i _=>3*k-(intOf i).toNat);exact⟨0,0,_,_,[],aM _,ae rfl,rfl,rfl,ae rfl,ae z,ae rfl,aF⟩;clear z;obtain⟨j,x,I,N,ps,hj,F,rfl,rfl,HJ,J,Z,hp⟩:=hrel;by_cases bE:j<k
  .obtain⟨y1,G,P,g1,g2,g3,gp⟩:=Mx j bs (by rw[<-L.o];omega);(have Q:(ps++[(y1,G*256+P)])++gz (bs.drop (3*(j+1)))=gz bs:=by rw[<-Z.o,gp];simp);rw[<-F.o]at g1 g2 g3;obtain⟨b1,q1,e1,R,v1,r1⟩:=b.rd _ _ g1;obtain⟨b2,q2,e2,Fm,v2,r2⟩:=b.rd _ _ g2;obtain⟨b3,q3,e3,C,v3,r3⟩:=b.rd _ _ g3;cases e1;cases e2;cases e3;have ob:Old X w:=⟨R⟩;(have i1:(x:Int)<3*(k:Int):=by have:=F.o;omega);(have i2:(x:Int)+1<3*(k:Int):=by have:=F.o;omega);(have i3:(x:Int)+2<3*(k:Int):=by have:=F.o;omega);have cc:bits .or .i64 (G*256) P=G*256+P:=U9 r2.1 r2.2 r3.1 r3.2;have G1:=ae Q;(have hx9:x<=900:=by have:=F.o;omega);(have k1:IntKind.i64.wrap y1=y1:=by rw[a7];omega);(have k2:IntKind.i64.wrap G=G:=by rw[a7];omega);(have k3:IntKind.i64.wrap P=P:=by rw[a7];omega);(have k4:IntKind.i64.wrap ((x:Int)+1)=(x:Int)+1:=by rw[a7];omega);(have k5:IntKind.i64.wrap ((x:Int)+2)=(x:Int)+2:=by rw[a7];omega);(have k6:IntKind.i64.wrap (G*256)=G*256:=by rw[a7];omega);(have j2:(0:Int)<=(x:Int)+1:=by omega);(have j3:(0:Int)<=(x:Int)+2:=by omega);(have t2:((x:Int)+1).toNat=x+1:=by omega);(have t3:((x:Int)+2).toNat=x+2:=by omega);clear g1 g2 g3 gp Q Z R Fm C r1;go_wp2_with fail;have Ue:ps=j:=HJ.o;subst Ue;refine ab w ao (λux _=>?_);refine qL [0,1,2,3,4,5,6,7,8,9,10,11,12,13,14,15,16,17,18,19,20] ?_;refine aK 21 λK hK=>?_;go_simp;refine aG hK<|bc (λux _ _=>?_);refine aK 22 λK hK=>?_;refine JM ao _ _ rfl (World.heap w).size _ _ _ rfl J.o.at _ _ _ rfl Bx.ak om ai ?_;intro A3 c3 w3 qe C;have:aj w3 w:=⟨(aP w _).trans C⟩;clear C;refine aG hK ?_;refine ff 23 ?_;refine a9 ?_;go_wp2_with fail;go_roundw;exact⟨ps.length+1,x+3,A3,c3,_,om,ae (by have:=F.o;omega),rfl,by go_num,ae aD,ae qe,G1,aF⟩;simp[intOf];omega
  obtain rfl:j=k:=om;(have xp:ps=gz bs:=by have:=Z.o;rwa[eF (by rw[<-L.o];exact al _),show gz []=[]from rfl,en]at this);subst xp;have hx:x=3*j:=F.o;subst hx;have iS:Is wr (I) (j) (gz bs):=⟨J.o.rd,l.o.symm⟩;exact xk1
 have hE:(16:Int)=E:=by rw[<-D.o,vd,ag (by rw[<-L.o];exact h3)]
 have hV:([]:List (Int×Int))=V:=by rw[<-S.o,JL,D.o,<-hE,ag am]
 subst hE hV;have hr:((n:Int)%3 !=0)=true:=by simp;omega
 clear D S;go_wp2_with fail;go_ret2;exact⟨none,0,rfl,ce.nil _ _,aF⟩
end
variable{bs:List Int}
def JN:vd bs=0\/vd bs=10\/vd bs=16:=by
 unfold vd e7;split
 .split;exact .inl rfl;exact .inr (.inl rfl)
 exact .inr (.inr rfl)
def JO:∀bs:List Int,(gz bs).length<=bs
 |a::b::c::t=>by have:=JO t;simp only[gz,dj];omega
 |[]=>al _
 |[_]=>aM _
 |[_,_]=>aM _
end Go.Proofs.YtmkjnlifimffkaaGreat
