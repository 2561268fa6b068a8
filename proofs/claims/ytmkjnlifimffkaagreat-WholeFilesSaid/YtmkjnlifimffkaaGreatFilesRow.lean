/- WholeFiles: for every input the statement returns true, and each argument reads afterwards as it read before. No condition. -/
import Derived.Test.YtmkjnlifimffkaaGreatF34
import Derived.Test.YtmkjnlifimffkaaGreatF27
import Derived.Laws.BytesArg
import Derived.Test.YtmkjnlifimffkaaGreatRows
import Derived.Test.YtmkjnlifimffkaaGreatF35
namespace Go.Proofs.YtmkjnlifimffkaaGreat
open Go.RowKit Go.Proofs.Tryz
set_option linter.all false
set_option maxRecDepth 100000
set_option maxHeartbeats 0
variable{c d g j l m r:Nat}{E cap x y z:Int}{p w':World}{A B:Option Addr}{O:List Int}
section
variable{c:Ch}{m:Int}{p:List (Int×Int)}
def Ch.ada(j:Nat):(c.fwd l r j).length<=2*j/\∀x∈c.fwd l r j,1<=x.2/\x.2<=(l:Int)+j:=by
 induction j with
 |zero=>exact⟨an _,λx hx=>by simp[fwd]at hx⟩
 |succ j b=>
  rw[fwd];refine⟨?_,λx hx=>?_⟩
  .rw[a1,a1,lO];have:=b.1
   split<;>simp<;>omega
  .rcases bJ.1 hx with hx|hx
   .rcases bJ.1 hx with hx|hx
    .have:=b.2 x hx;omega
    .rw[List.mem_singleton.1 hx];dsimp only;omega
   .split at hx
    .simp at hx
    .rw[List.mem_singleton.1 hx];dsimp only;omega
def Ch.TZ.ids(h:c.TZ l r m p):l<r/\p.length<=2*((r-l)*(r-l))+3*(r-l)/\∀x∈p,0<=x.2/\x.2<=(r:Int):=by
 induction h with
 |last h hm=>
  refine⟨om,?_,λx hx=>?_⟩
  .rw[J8];simp
  .simp only[bT,kG,lN]at hx;rcases hx with rfl|rfl|rfl|rfl|rfl<;>dsimp only<;>omega
 |one h hm=>
  refine⟨om,?_,λx hx=>?_⟩
  .rw[J8];simp
  .rw[List.mem_singleton.1 hx];dsimp only;omega
 | @split l r j m p q G hr I hv hm hp hq u y=>
  obtain⟨J,z,a3⟩:=u;obtain⟨K,B,C⟩:=y;obtain⟨f1,f2⟩:=ada (c:=c) (l:=l) (r:=r) (j+1);refine⟨om,?_,λx hx=>?_⟩
  .obtain⟨a,D⟩:=lh (r-(l+j+1));obtain⟨b,hb⟩:=lh (l+j+1-l);have e:r-l=a+b:=om;have E:j+1=b:=om;rw[D]at z;rw[hb]at B;rw[e,a1,a1,a1,lO];have L:b<=a*b:=adb b om;have F:(a+b)*(a+b)=a*a+a*b+(a*b+b*b):=by rw[rP,Nat.mul_add,Nat.mul_add,vQ b a]
   rw[F];omega
  .rcases bJ.1 hx with hx|hx
   .rcases bJ.1 hx with hx|hx
    .rcases bJ.1 hx with hx|hx
     .have:=f2 x hx;omega
     .exact a3 x hx
    .rw[List.mem_singleton.1 hx];dsimp only;omega
   .have:=C x hx;omega
noncomputable def Ch.T4(c:Ch)(cap:Int):List (Int×Int):=Classical.epsilon λq=>c.TZ 0 c.n (min cap (c.jG 0 c.n)) q\/((∀r,¬c.TZ 0 c.n (min cap (c.jG 0 c.n)) r)/\q=[])
def Ch.acX(c:Ch)(cap:Int):c.TZ 0 c.n (min cap (c.jG 0 c.n)) (c.T4 cap)\/((∀r,¬c.TZ 0 c.n (min cap (c.jG 0 c.n)) r)/\c.T4 cap=[]):=
 Classical.epsilon_spec (p:=λq=>c.TZ 0 c.n (min cap (c.jG 0 c.n)) q\/((∀r,¬c.TZ 0 c.n (min cap (c.jG 0 c.n)) r)/\q=[])) (by
  by_cases h:∃q,c.TZ 0 c.n (min cap (c.jG 0 c.n)) q
  .obtain⟨q,h⟩:=h;exact⟨q,.inl h⟩
  .exact⟨[],.inr ⟨λr hr=>h ⟨r,hr⟩,rfl⟩⟩)
def Ch.aaz(h:c.TZ 0 c.n (min cap (c.jG 0 c.n)) p):c.T4 cap=p:=(acX c cap).elim (λb=>b.only h) λb=>absurd h (b.1 p)
def Ch.aav(h:c.n<=64):(c.T4 cap).length<=65536:=by
 rcases acX c cap with h1|h1
 .have b:=h1.ids.2.1;have e:(c.n-0)*(c.n-0)<=64*64:=Un h h;omega
 .rw[h1.2];exact aT _
end
def mH(O:List Int)(x:Int×Int):Int×Int:=if 0<x.2 then(x.1,O.getD (x.2-1).toNat 0)else x
def T5(N:aU):Ch:=⟨NI N,I8 N⟩
def zx(N:aU)(cap:Int):Int:=if yj N=0 then(T5 N).g2 cap else yj N
noncomputable def BW(N:aU)(cap:Int):List (Int×Int):=if zx N cap=0 then((T5 N).T4 cap).map (mH (d7 N))else[]
def BX{N:aU}(h:zx N cap=0):(BW N cap).length<=65536:=by
 rw[BW,ah h,br];refine Ch.aav ?_;unfold zx at h;by_cases b:yj N=0
 .rw[ah b]at h;unfold Ch.g2 at h;by_cases e:(T5 N).eH cap=0
  .exact(Ch.uj e).1.n2
  .rw[ag e]at h;exact absurd h e
 .rw[ag b]at h;exact absurd h b
def LD:∀{ps:List (Int×Int)} {j:Nat} {x y z:Int},ps[j]?=some (x,y)->(ic ps).set (j*2+1) (.int .i64 z)=ic (ps.set j (x,z))
 |u::l,0,x,y,z,h=>by simp at h;subst h;simp[ic]
 |u::l,j+1,x,y,z,h=>by
  have b:=LD (ps:=l) (j:=j) (z:=z) (by simpa using h);have e:∀(v:Int×Int) (t:List (Int×Int)),ic (v::t)=.int .i64 v.1::.int .i64 v.2::ic t:=λv t=>by simp[ic]
  rw[r5,e,e,<-b,show(j+1)*2+1=(j*2+1)+1+1 from om,r5,r5]
def bM.aaw{w:World}{B:Nat}{V:List (Int×Int)}(h:bM w B (some ⟨g,0,none⟩) c V)(l:V[j]?=some (x,y)):bM (w.setCell ⟨g,j*2+1,none⟩ (.int .i64 z)) B (some ⟨g,0,none⟩) c (V.set j (x,z)):=by
 rcases aI.form (show aI w B 98 2 _ c _ _ from h)with⟨e,_⟩|⟨C,b,e,m,hg,r,hm,u,ht⟩
 .cases e
 .injection e with e
  injection e with e _ _
  subst e
  show aI _ B 98 2 _ c _ _
  refine aI.mk' m (d3 g [.int .i64 z] (j*2+1) w b 98 (0,0) hg) (by rw[ej];exact r) hm (by rw[gb];exact u) ?_;rw[ej,<-LD l,<-ht];simp only[qU];rw[pX,List.take_set]
structure JZ(p w:World)(g c:Nat)(V:List (Int×Int))(AO:Option Addr)(m:Nat)(O:List Int):Prop where
 row:bM w p (some ⟨g,0,none⟩) c V
 so:az w (g+1) 3 AO m O
 prev:aj w p
section
variable{w:World}{AO:Option Addr}{n k:Nat}{N:aU}{V code:List (Int×Int)}
def JZ.ax(h:JZ p w g c V AO m O)(l:V[j]?=some (x,y)):JZ p (w.setCell ⟨g,j*2+1,none⟩ (.int .i64 z)) g c (V.set j (x,z)) AO m O:=
 have hg:p.heap.size<=g:=h.row.fresh _ rfl
 ⟨h.row.aaw l,aI.same h.so λb e=>bm w ⟨g,j*2+1,none⟩ _ _ (by have:=aI.ge h.so b e;show b.block≠g;omega),⟨h.prev.st.setCell (p:=⟨g,j*2+1,none⟩) hg _⟩⟩
def JZ.cell(h:JZ p w g c V AO m O)(u:V[j]?=some (x,y)):w.cell? ⟨g,j*2+1,none⟩=some (.int .i64 y)/\w.frozen? ⟨g,j*2+1,none⟩=false:=by
 obtain⟨b,off,e,hb,-,C⟩:=h.row.rd j (x,y) u;rcases h.row.form with⟨l,_⟩|⟨G,r,l,-,hg,-⟩
 .cases l
 .injection l with l
  injection l with l _ _
  subst l;refine⟨?_,aB.frozen (T:=98) (cs:=r) hg _⟩;have:b=g/\off=0:=by injection e with e;injection e with D F _;exact⟨D.symm,F.symm⟩
  obtain⟨rfl,rfl⟩:=this;simpa using C
def Hl{b:List (Int×Int)}(hV:b=(code.take j).map (mH O)++code.drop j)(e:code[j]?=some (x,y)):b[j]?=some (x,y)/\b.set j (mH O (x,y))=(code.take (j+1)).map (mH O)++code.drop (j+1):=by
 obtain⟨r,u⟩:=a5.1 e;have l:((code.take j).map (mH O)).length=j:=by rw[br,bB];omega
 have hd:code.drop j=(x,y)::code.drop (j+1):=by rw[ei r,u]
 rw[hV,hd];refine⟨by rw[ew om,l,eB];rfl,?_⟩;rw[kH _ _ om,l,eB,jq,fb,e,cJ];simp
def Hm[a:aQ w A n B m N](hf:Hx N.fits)(hs:Hx N.small)(Dv:Hx (a6 N=0))(hE:Hx (zx N cap=E))(hV:Hx (BW N cap=V)):
  () 95 #[.agg #[.slice A n c,.slice B m d],cap] w (iN w E V):=by
 have CB:=@aa;have HM:Hx (m=N.nodes.length):=ae a.len;have F:=hE.o;have G:=hV.o;rw[zx]at F;rw[BW,hE.o]at G;obtain⟨E1,h1⟩:=lh (yj N);obtain⟨W,hW⟩:=lh (NI N);obtain⟨C,hC⟩:=lh (I8 N);have S:T5 N=⟨W,C⟩:=by rw[T5,hW,hC]
 obtain⟨M,P⟩:=lh (d7 N);rw[h1,S]at F;rw[S,P]at G;have T:=ae h1;have U:=ae hW;have X:=ae hC;have J:C.length=if E1=0 then M.length else 0:=by
  rw[<-hC,I8,h1,P]
  split<;>simp
 clear S h1 hW hC;obtain⟨nw,Q⟩:=lh W.length;obtain⟨nc,R⟩:=lh C.length;have I:=ae Q;have K:=ae R;by_cases c1:E1=0;rotate_left
 .rw[ag c1]at F;subst F;rw[ag c1]at G;subst G;have b0:(E1 !=0)=true:=by simp[c1]
  clear c1 J Q R;go_enter func95,ntmps95
  go_upto_region 1 with fail
  refine aw (λu0 _ kn=>?_)
  go_wp2_with (go_at_call 146;refine(qe hf hs T U X).mono ?_;rintro e Y ⟨A1,c1,B1,d1,rfl,_,_,_⟩;rw[I.o,K.o])
  go_ret2;exact⟨none,0,rfl,bM.nil _ _,ab _ _⟩
 subst c1;rw[ah rfl]at F J;by_cases c2:E=0;rotate_left
 .rw[ag c2]at G;subst G;have b0:(E !=0)=true:=by simp[c2]
  have Z:=ae F;have oU:Hx ((⟨W,C⟩:Ch).g2 cap≠0):=ae (by rw[F];exact c2);clear F c2 J Q R;go_enter func95,ntmps95
  go_upto_region 1 with fail
  refine aw (λu0 _ kn=>?_)
  go_upto_region 4 with(go_at_call 146;refine(qe hf hs T U X).mono ?_;rintro e Y ⟨A1,c1,B1,d1,rfl,o1,o2,_⟩;rw[I.o,K.o];obtain⟨hle,-⟩:nw<=c1/\True:=⟨by rw[<-I.o];exact aI.le o1,bA⟩;obtain⟨s1,-⟩:Sl Y A1 nw W/\True:=⟨⟨o1.rd,I.o.symm⟩,bA⟩;obtain⟨s2,-⟩:Sl Y B1 nc C/\True:=⟨⟨o2.rd,K.o.symm⟩,bA⟩)
  go_wp2_with (go_at_call 147;refine(Hk (c:=⟨W,C⟩) hle oU).mono ?_;rintro e u2 ⟨rfl,_⟩;rw[Z.o])
  go_ret2;exact⟨none,0,rfl,bM.nil _ _,ab _ _⟩
 subst c2;rw[ah rfl]at G;obtain⟨O,L,l,nN,sq,-,-⟩:=look_ok Dv.o;obtain rfl:M=O:=by rw[<-P];exact sq.ord
 have I9:=Dv;have nT:=ae nN;have xk:Hx (M.length=m):=ae (by rw[sq.sM,HM.o]);have LG:C.length=m:=by rw[J];exact xk.o
 have Z:Hx ((⟨W,C⟩:Ch).g2 cap=0):=ae F;have G5:=ae G;have HCM:=ae LG;clear F G J Q R sq nN P LG;go_enter func95,ntmps95
 go_upto_region 1 with fail
 refine aw (λu0 _ kn=>?_)
 go_upto_region 4 with(go_at_call 146;refine(qe hf hs T U X).mono ?_;rintro e Y ⟨A1,c1,B1,d1,rfl,o1,o2,_⟩;rw[I.o,K.o];obtain⟨hle,-⟩:nw<=c1/\True:=⟨by rw[<-I.o];exact aI.le o1,bA⟩;obtain⟨s1,-⟩:Sl Y A1 nw W/\True:=⟨⟨o1.rd,I.o.symm⟩,bA⟩;obtain⟨s2,-⟩:Sl Y B1 nc C/\True:=⟨⟨o2.rd,K.o.symm⟩,bA⟩)
 clear o1 o2
 go_upto_region 7 with(go_at_call 147;refine(Eg (c:=⟨W,C⟩) hle Z).mono ?_;rintro e u2 ⟨CA,cc,code,D,rfl,HP,HD,_,oC,_⟩)
 obtain⟨k,hk⟩:=lh code.length;have HK:=ae hk;rw[hk];have DR:Hx ((⟨W,C⟩:Ch).T4 cap=code):=ae (Ch.aaz (by rw[HD.o];exact HP.o));obtain⟨q1,q2,q3⟩:=HP.o.ids;have HID:Hx (∀x∈code,0<=x.2/\x.2<=(m:Int)):=ae λx hx=>by have:=q3 x hx;rw[show(⟨W,C⟩:Ch).n=m from HCM.o]at this;exact this
 obtain⟨g,rfl⟩:∃g,CA=some ⟨g,0,none⟩:=by
  rcases oC.form with⟨_,h0,_⟩|⟨g,_,e,_⟩
  .rw[h0]at hk;have:=HP.o;rw[h0]at this;generalize(⟨W,C⟩:Ch).n=r at this;generalize hq:([]:List (Int×Int))=q at this;cases this<;>simp at hq
  .exact⟨g,e⟩
 clear hk q1 q2 q3;have qt:g<u2.heap.size:=oC.lt _ rfl;have Fc:k<=65536:=by
  have:=BX hE.o;rw[hV.o,<-G5.o,DR.o,br,HK.o]at this;exact this
 have hm:m<=1000:=by rw[HM.o];exact hs.o.1
 go_wp2_with (first|(go_at_call 60;(with_reducible refine(io hf hs I9 nT xk).mono ?_);rintro e u ⟨AO,cO,rfl,sO,oO,pO⟩))
 have pJ:Hx (JZ w u g cc code AO cO M):=ae ⟨(show aI _ _ 98 2 _ _ _ _ from oC).at.less (ai (w:=w) (w':=Y)),aI.less oO (aO qt ai),ab _ _⟩;clear oO sO qt oC;go_loopw [43] (λi wr=>∃(j:Nat) (V':List (Int×Int)),j<=k/\i=.int .i64 j/\Hx (JZ w wr g cc V' AO cO M)/\Hx (V'=(code.take j).map (mH M)++code.drop j)) (λi _=>k-(intOf i).toNat)
 case atStart=>exact⟨0,code,aT _,rfl,pJ,ae aG⟩
 case round=>
  obtain⟨j,V',hj,rfl,HS,HV'⟩:=hrel;have pw:=HS.o.prev;by_cases bK:j<k
  .obtain⟨⟨x,y⟩,hxy⟩:∃x,code[j]?=some x:=⟨_,bc (by rw[HK.o];exact bK)⟩;obtain⟨r1,r2⟩:=Hl HV'.o hxy;obtain⟨c1,f1⟩:=HS.o.cell r1;have hid:=HID.o _ (aC hxy);dsimp only at hid;have R1:=ae r1;have R2:=ae r2;clear r1 r2 hxy;by_cases hy:0<y
   .obtain⟨i,rfl⟩:∃i:Nat,y=((i+1:Nat):Int):=⟨(y-1).toNat,om⟩;have hi:i<m:=om;have sO2:Sl wr AO m M:=⟨az.rd HS.o.so,xk.o.symm⟩;obtain⟨b,off,z,rfl,ob,vz,ez⟩:=sO2.get hi;have t3:decide ((0:Int)<((i:Int)+1))=true:=ef om;have R3:Hx (mH M (x,((i+1:Nat):Int))=(x,z)):=ae (by
     unfold mH;rw[ah hy,show(((i+1:Nat):Int)-1).toNat=i from om,f8 ez.o])
    clear hy hid
    go_wp2_with fail
    go_roundw
    case rel=>exact⟨j+1,_,om,by go_num,ae (HS.o.ax (z:=z) R1.o),ae (by rw[<-R2.o,R3.o])⟩
    case measure=>exact e6
   .have t3:decide (0<y)=false:=dD hy;have R3:Hx (V'=(code.take (j+1)).map (mH M)++code.drop (j+1)):=ae (by
     rw[<-R2.o];unfold mH;rw[ag hy];obtain⟨h1,h2⟩:=a5.1 R1.o;rw[<-h2,List.set_getElem_self])
    clear hy hid
    go_wp2_with fail
    go_roundw
    case rel=>exact⟨j+1,V',om,by go_num,HS,R3⟩
    case measure=>exact e6
  .obtain rfl:j=k:=om;have hv:V'=V:=by
    rw[HV'.o,bR (dE HK.o),ey (dE HK.o),fG,<-G5.o,DR.o]
   have Fp:Hx (V'.length=j):=ae (by rw[hv,<-G5.o,DR.o,br,HK.o]);subst hv
   go_wp2_with fail
   go_ret2;exact⟨_,cc,by rw[Fp.o];rfl,HS.o.row,pw⟩
end
variable{u:World}{AK:Option Addr}{R:Nat}{LE P1 P2 P3 P4 pl:Int}{LV:List (Int×Int)}
def zy(N:aU)(pl cap:Int):Int:=if pl=4 then zx N cap else gpE N pl cap
noncomputable def td(N:aU)(pl cap:Int):List (Int×Int):=if pl=4 then BW N cap else Wh N pl cap
noncomputable def T6(N:aU)(pl cap:Int):Int×List (Int×Int)×(Int×Int×Int×Int)×Int:=
 if zy N pl cap=0 then(if j9 N cap (td N pl cap)=0 then(pl,td N pl cap,oO N cap (td N pl cap),0)else(0,[],(0,0,0,0),26))else(0,[],(0,0,0,0),zy N pl cap)
section
variable{w:World}{n k y:Nat}{N:aU}{q:Int}{V:List (Int×Int)}
def J0[aQ w A n B m N](l:Hx N.fits)(hs:Hx N.small)(b:Hx (a6 N=0))(r:Hx (zx N cap=E))(z:Hx (BW N cap=V)):
  () 50 #[.agg #[.slice A n c,.slice B m d],(4:Int),cap] w (iN w E V):=by
 have D:=@aa;obtain⟨y,j⟩:=lC V.length;go_enter func50,ntmps50
 go_upto_region 1 with fail
 refine aw (λF _ G=>?_)
 go_wp2_with (go_at_call 95;refine(Hm l hs b r z).mono ?_;rintro e I ⟨AC,cC,rfl,C,_⟩;rw[j.o])
 go_ret2;exact⟨AC,cC,by rw[j.o];rfl,(show aI _ _ 98 2 _ _ _ _ from C).at.less (ai (w:=w)),ab _ _⟩
def zz[aQ w A n B m N](j:Hx N.fits)(hs:Hx N.small)(b:Hx (a6 N=0))(hm:m<=12)(l:Hx (zy N pl cap=E))(r:Hx (td N pl cap=V)):
  () 50 #[.agg #[.slice A n c,.slice B m d],pl,cap] w (iN w E V):=by
 have hE:=l.o;have hV:=r.o;unfold zy at hE;unfold td at hV;by_cases e:pl=4
 .subst e;rw[ah rfl]at hE hV;exact J0 j hs b (ae hE) (ae hV)
 .rw[ag e]at hE hV;exact OF j hs b hm e (ae hE) (ae hV)
def OX:(uV N cap).length<=65536:=by
 have h:∀(W:List Int) (k:Nat) (b:List Int),(qM N W cap k b).2.length<=65536:=λW k=>by
  have e:∀b,(JB N b).length<=65536:=λb=>by unfold JB;split;exact ub;exact aT _
  induction k with
  |zero=>
   intro b;unfold qM
   split
   .split
    .exact e _
    .exact aT _
   .exact aT _
  |succ k j=>
   intro b;unfold qM
   split
   .split
    .exact e _
    .exact j _
   .exact aT _
 unfold uV
 split
 .exact h _ _ _
 .exact aT _
def uk(b:zy N pl cap=0):(td N pl cap).length<=65536:=by
 unfold td
 split
 .rename_i e;subst e;unfold zy at b;rw[ah rfl]at b;exact BX b
 .unfold Wh
  repeat' split
  all_goals first|exact ub|exact OX|exact aT _
def BY[aQ w A n B m N](z:Hx N.fits)(hs:Hx N.small)(b:Hx (a6 N=0))(hm:m<=12)(C:cap<=144115188075855872)(H:Hx (T6 N pl cap=(q,V,(P1,P2,P3,P4),E))):
  () 17 #[.agg #[.slice A n c,.slice B m d],pl,cap] w (lw w q V P1 P2 P3 P4 E):=by
 have h:=H.o;unfold T6 at h;have no:∀{X:Int},() 17 #[.agg #[.slice A n c,.slice B m d],pl,cap] w (aD w (zd X))->((0:Int),([]:List (Int×Int)),((0:Int),(0:Int),(0:Int),(0:Int)),X)=(q,V,(P1,P2,P3,P4),E)->() 17 #[.agg #[.slice A n c,.slice B m d],pl,cap] w (lw w q V P1 P2 P3 P4 E):=λF D=>by
  simp only[dL]at D;obtain⟨rfl,rfl,⟨rfl,rfl,rfl,rfl⟩,rfl⟩:=D;exact F.mono λe w' ⟨j,r⟩=>⟨none,0,j,bM.nil _ _,r⟩
 by_cases j:zy N pl cap=0
 .rw[ah j]at h;have l:Hx (∀(u:World) [aQ u A n B m N],() 50 #[.agg #[.slice A n c,.slice B m d],pl,cap] u (iN u 0 (td N pl cap))):=ae λu _=>zz z hs b hm (ae j) (ae rfl);by_cases r:j9 N cap (td N pl cap)=0
  .rw[ah r]at h;simp only[dL]at h;obtain⟨rfl,rfl,G,rfl⟩:=h;exact s4 z hs C l (uk j) b (ae rfl) (ae r) (ae G)
  .rw[ag r]at h;exact no (D9 z hs C l (uk j) b (ae rfl) r) h
 .rw[ag j]at h;exact no (s5 z hs (ae λu _=>zz z hs b hm (ae rfl) (ae rfl)) b j) h
end

variable{ps qs:List (Int×Int)}
section
variable{w:World}{n:Nat}
def WH[a:Is w A n ps][b:Is w B m qs](Q:n<=1000000)(hm:m<=1000000):() 51 #[.slice A n c,.slice B m d] w (aD w (.bool (decide (ps=qs)))):=by
 have R:=@bL;have C:Hx (n=ps.length):=ae a.len;have D:Hx (m=qs.length):=ae b.len;go_enter func51,ntmps51;by_cases u:n=m;rotate_left
 .have r:decide (ps=qs)=false:=by simp;intro e;exact u (by rw[C.o,D.o,e])
  have t0:((n:Int) !=(m:Int))=true:=by simp;omega
  go_wp2_with fail
  go_ret;exact⟨by rw[r];rfl,ab _ _⟩
 subst u
 go_wp2_with fail
 go_loopw [13] (λi wr=>∃j:Nat,j<=n/\i=.int .i64 j/\Hx (ps.take j=qs.take j)/\aj wr w) (λi _=>n-(intOf i).toNat)
 case atStart=>exact⟨0,aT _,rfl,ae rfl,ab _ _⟩
 case round=>
  obtain⟨j,S,rfl,E,hp⟩:=hrel;by_cases y:j<n
  .obtain⟨T,o1,x1,F,rfl,O,U,V,G⟩:=a.get y;obtain⟨X,Y,x2,I,rfl,P,v3,v4,J⟩:=b.get y;have l:(x1,F)≠(x2,I)->decide (ps=qs)=false:=λh=>by
    simp;intro e;have K:=G.o;rw[e,J.o]at K;exact h (cn K).symm
   by_cases L:x1=x2
   .subst L;by_cases M:F=I
    .subst M;have z:Hx (ps.take (j+1)=qs.take (j+1)):=ae (by rw[fb,fb,G.o,J.o,E.o]);clear l
     go_wp2_with fail
     go_upto_region 6 with fail
     refine am aq (λN _=>?_);refine ap 0 ?_;refine ap 1 ?_;refine ap 2 ?_;refine ap 3 ?_;refine ap 4 ?_;refine ap 5 ?_;refine ap 6 ?_;refine ap 7 ?_;refine ap 8 ?_;refine aZ ?_
     go_wp2_with fail
     go_roundw
     case rel=>exact⟨j+1,om,by go_num,z,ab _ _⟩
     case measure=>exact e6
    .have r:=l (λe=>M (by injection e));clear l
     go_wp2_with fail
     go_upto_region 6 with fail
     refine am aq (λN _=>?_);refine ap 0 ?_;refine ap 1 ?_;refine ap 2 ?_;refine ap 3 ?_;refine ap 4 ?_;refine ap 5 ?_;refine ap 6 ?_;refine ap 7 ?_;refine ap 8 ?_;refine aZ ?_
     go_wp2_with fail
     go_ret;exact⟨by rw[r];rfl,ab _ _⟩
   .have r:=l (λe=>L (by injection e));clear l
    go_wp2_with fail
    go_upto_region 6 with fail
    refine am aq (λN _=>?_);refine ap 0 ?_;refine ap 1 ?_;refine ap 2 ?_;refine ap 3 ?_;refine ap 4 ?_;refine ap 5 ?_;refine ap 6 ?_;refine ap 7 ?_;refine ap 8 ?_;refine aZ ?_
    go_wp2_with fail
    go_ret;exact⟨by rw[r];rfl,ab _ _⟩
  .obtain rfl:j=n:=om;have r:decide (ps=qs)=true:=by
    have:=E.o;rw[bR (by rw[C.o];exact an _),bR (by rw[D.o];exact an _)]at this;simpa using this
   go_wp2_with fail
   go_ret;exact⟨by rw[r];rfl,ab _ _⟩
def OY[Is w A n ps][Is w B m qs](b:n<=1000000)(hm:m<=1000000){r:Bool}(hr:Hx (decide (ps=qs)=r)):() 18 #[.slice A n c,.slice B m d] w (aD w (.bool r)):=by
 have j:∀W,aj W w->() 51 #[.slice A n c,.slice B m d] W (aD W (.bool r)):=λW _=>by rw[<-hr.o];exact WH b hm
 have l:aj w w:=⟨aY _ _⟩;go_enter func18,ntmps18
 go_wp2_with (go_at_call 51;refine(j _ l).mono ?_;rintro e u ⟨rfl,_⟩)
 go_ret;exact⟨rfl,ab _ _⟩
end
variable{b q:Nat}{xs zs:List Int}{T:TypeId}
abbrev Eh(zs:List Int):List Value:=zs.map (Value.int .u8)
structure Ei(p w:World)(g:Nat)(bs:List Int)(A:Option Addr)(c:Nat):Prop where
 prev:aj w p
 hg:p.heap.size<=g
 al:aB w g 112 #[.slice A bs c]
 row:aI w p.heap.size 5 1 A c bs.length (Eh bs)
def oG(p w:World)(g:Nat)(bs:List Int):Prop:=∃A c,Ei p w g bs A c
structure Kw(g:Nat)(w w':World):Prop where
 size:w.heap.size<=w'.heap.size
 keep:∀b,b<w.heap.size->b≠g->(∀cs fz,w.heap[b]?≠some (.cells cs 5 fz))->w'.heap[b]?=w.heap[b]?
section
variable{w w3:World}{n k c3:Nat}{bs:List Int}{A3 S:Option Addr}{cs:Array Value}
def Kw.refl(g:Nat)(w:World):Kw g w w:=⟨an _,λ_ _ _ _=>rfl⟩
def Kw.later(g:Nat)[l:aF w w']:Kw g w w':=⟨l.st.size,λb hb _ _=>l.st.block b hb⟩
def Kw.trans(h:Kw g w w')(j:Kw g w' u):Kw g w u:=
 ⟨aO h.size j.size,λb hb e ht=>(j.keep b (bu hb h.size) e λcs l=>by rw[h.keep b hb e ht];exact ht cs l).trans (h.keep b hb e ht)⟩
def Kw.al(h:Kw g w w')(o:aB w b T cs)(hb:b≠g)(l:T≠5):aB w' b T cs:=(h.keep b o.lt hb λm z e=>by
 have j:=o.symm.trans e;injection j with j;injection j with B r C;exact l r).trans o
def Ei.at(h:Ei p w g bs A c)[l:aF w w']:Ei p w' g bs A c:=⟨⟨dW h.prev.st l.st⟩,h.hg,h.al.at,h.row.at⟩
def oG.at(h:oG p w g bs)[aF w w']:oG p w' g bs:=by obtain⟨A,c,h⟩:=h;exact⟨A,c,h.at⟩
theorem oG.prev(h:oG p w g bs):aj w p:=by obtain⟨A,c,h⟩:=h;exact h.prev
def Ei.af(h:Ei p w g bs A c):∀b,AF A b->b≠g:=λb hb e=>by
 obtain⟨_,_,l,j⟩:=h.row.af hb;rw[e]at j;have:=h.al.symm.trans j;injection this with m;injection m with z r B;exact absurd r ak
structure OZ(p w:World)(g:Nat)(bs:List Int)(A:Option Addr)(c:Nat)(A3:Option Addr)(c3:Nat)(y:Int):Prop where
 prev:aj w p
 hg:p.heap.size<=g
 al:aB w g 112 #[.slice A bs c]
 row:aI w p.heap.size 5 1 A3 c3 (bs.length+1) (Eh bs++[.int .u8 y])
def OZ.at(h:OZ p w g bs A c A3 c3 y)[l:aF w w']:OZ p w' g bs A c A3 c3 y:=⟨⟨dW h.prev.st l.st⟩,h.hg,h.al.at,h.row.at⟩
def Ei.push(h:Ei p w g bs A c)(r:aI w3 p.heap.size 5 1 A3 c3 (bs.length+1) (Eh bs++[.int .u8 y]))(m:cP A A3 w w3):OZ p w3 g bs A c A3 c3 y/\Kw g w w3:=
 have l:=h.prev
 ⟨⟨(Kf.hD m).prev λb hb=>(h.row.af hb).1,h.hg,(Kf.hD m).al h.al λhb=>h.af _ hb rfl,r⟩,m.size,λb hb _ ht=>m.off b hb λz e B=>by
  obtain⟨_,_,C,j⟩:=h.row.af ⟨z,e,rfl⟩;rw[B]at j;exact ht _ _ j⟩
def Kw.ax(h:Kw g w w')(i:Nat)(v:Value):Kw g w (w'.setCell ⟨g,i,none⟩ v):=
 ⟨by have:=h.size;simpa using this,λb hb e ht=>(bm w' ⟨g,i,none⟩ v b e).trans (h.keep b hb e ht)⟩
def OZ.store(h:OZ p w g bs A c A3 c3 y):Ei p (w.setCell ⟨g,0,none⟩ (.slice A3 (bs.length+1) c3)) g (bs++[y]) A3 c3:=by
 refine⟨⟨h.prev.st.setCell (p:=⟨g,0,none⟩) h.hg _⟩,h.hg,?_,?_⟩
 .rw[a1];exact h.al.ax 0 _
 .rw[a1,Eh,cJ];exact h.row.same λm e=>bm w ⟨g,0,none⟩ _ _ λl=>by
   obtain⟨_,_,r,j⟩:=h.row.af ⟨m,e,rfl⟩;rw[show m.block=g from l]at j;have:=h.al.symm.trans j;injection this with l;injection l with B z C;exact absurd z ak
def zA(h:k<=8)(x:Int):bF k (IntKind.u64.wrap x)=bF k x:=by
 have j:(256:Int)^8=18446744073709551616:=by decide
 have e:x=x/18446744073709551616*256^8+IntKind.u64.wrap x:=by rw[j,bg];omega
 conv=>rhs;rw[e]
 exact(t2 _ _ 8 k h).symm
def LF(p:World)(g:Nat)(w:World)(bs:List Int)(e:Ending)(w':World):Prop:=e=.returned (.tuple #[])/\Hx (oG p w' g bs)/\Hx (Kw g w w')/\aj w' p
def ti(h:Hx (oG p w g bs))(hl:bs.length<=1000000)(hk:1<=k)(h8:k<=8)(V:z=(k:Int)):
  () 41 #[.pointer g,.int .u64 x,z] w (LF p g w (bs++bF k x)):=by
 have CB:=@aa;subst V;have t1:decide ((k:Int)<1)=false:=by simp;omega
 have t2:decide ((8:Int)<(k:Int))=false:=by simp;omega
 go_enter func41,ntmps41
 go_upto_region 1 with fail
 go_loopw [2] (λs wr=>∃(j:Nat) (W:List Int),j<=k/\s=.int .i64 j/\W.length<=bs.length+(k-j)/\Hx (W++bF j x=bs++bF k x)/\Hx (oG p wr g W)/\Hx (Kw g w wr)) (λs _=>(intOf s).toNat)
 case atStart=>exact⟨k,bs,an _,rfl,om,ae rfl,h,ae (Kw.refl _ _)⟩
 case round=>
  obtain⟨j,W,hj,rfl,hW,R,I,U⟩:=hrel;cases j with
  |zero=>
   have r:=R.o;rw[show bF 0 x=[]from rfl,fG]at r;subst r;have pw:=I.o.prev
   go_wp2_with fail
   exact⟨rfl,.tuple #[],by simp[results,results41,go_sem],rfl,I,U,pw⟩
  |succ i=>
   obtain⟨A,c,hS⟩:=I.o;have J:=ae hS;have X:Bx wr g 112 #[.slice A W c]:=⟨hS.al⟩;have Y:aI wr p.heap.size 5 1 A c W.length (Eh W):=hS.row;have pw:aj wr p:=hS.prev;have r:=R.o;rw[bF,show W++(x/256^i%256::bF i x)=(W++[x/256^i%256])++bF i x from aG]at r;obtain⟨y,L⟩:=lh (x/256^i%256);rw[L]at r;have Z:=ae L;have M:=ae r;clear r L hS;have w8:IntKind.i64.wrap (8*(i:Int))=8*(i:Int):=by rw[aV];omega
   have y8:IntKind.u8.wrap (x/2^(8*(i:Int)).toNat)=y:=by
    rw[<-Z.o,show(8*(i:Int)).toNat=8*i from om,Int.pow_mul];rfl
   have hWl:W.length<=1000100:=om
   go_upto_region 3 with fail
   clear X Y;refine aH p aq (λl _=>?_);refine ap 0 ?_;refine ap 1 ?_;refine ap 2 ?_;refine ap 3 ?_;refine ap 5 ?_;refine ap 6 ?_;refine ap 7 ?_;refine ap 8 ?_;refine ap 9 ?_;refine o7 4 10 (λK hK=>?_) (λK hK=>?_)
   focus
    have e:=J.o.at (w':=l);have B:Bx l g 112 _:=⟨e.al⟩;go_simp;clear e B;refine aL hK ?_;clear hK K;refine aM 10 λK hK=>?_;go_simp;refine aL hK ?_;clear hK K;refine bh (λl _ _=>?_)
   rotate_left
   focus
    go_simp;refine aL hK ?_;clear hK K;refine bh (λl _ _=>?_);refine aM 4 λK hK=>?_;have e:=J.o.at (w':=l);have B:Bx l g 112 _:=⟨e.al⟩;go_simp;clear e B;refine aL hK ?_;clear hK K
   all_goals
    refine aM 11 λK hK=>?_;have e:=J.o.at (w':=l);refine mh aq _ _ _ rfl 5 underlying22 1 1 (.int .u8 0) aq rfl ak ak p A c W.length (Eh W) rfl e.row [.int .u8 y] rfl Bx.al rfl (λu hu=>by rw[cF.1 hu];rfl) om e.prev.st.size ?_;intro A3 c3 l D E;obtain⟨C,F⟩:=e.push D E;have HM:=ae C;have N:Hx (Kw g wr l):=ae ((Kw.later g).trans F);have p3:aj l p:=C.prev;clear C F D E e;refine aL hK ?_ p3;clear hK K;refine ap 12 ?_;refine ap 13 ?_;refine aM 14 λK hK=>?_;have m:=HM.o.at (w':=l);have O:=m.al.cell 0;have P:=m.al.frozen 0;go_simp;have G:=ae m.store;have Q:=ae ((N.o.trans (Kw.later g (w':=l))).ax 0 (.slice A3 (W.length+1) c3));have p9:=G.o.prev;clear m O P;refine aL hK ?_ p9;clear hK K;refine aZ ?_
    go_wp2_with fail
    go_roundw
    case rel=>exact⟨i,W++[y],om,rfl,by rw[a1,lO];omega,M,ae ⟨A3,c3,G.o⟩,ae (U.o.trans Q.o)⟩
    case measure=>simp[intOf]
def zB(h:Hx (oG p w g bs))(j:bs.length<=1000000)(l:1<=k)(e:k<=8)(m:z=(k:Int)):
  () 41 #[.pointer g,.int .u64 (IntKind.u64.wrap x),z] w (LF p g w (bs++bF k x)):=by
 have:=ti (x:=IntKind.u64.wrap x) h j l e m;rwa[zA e]at this
def Hn{α:Type}{f:α->List Int}{q:Nat}:∀l:List α,(∀y∈l,(f y).length<=q)->(l.flatMap f).length<=l.length*q
 |[],_=>aG
 |y::t,h=>by
  have j:=h y cm;have m:=Hn t λz e=>h z (dl _ e);rw[g8,a1,dm,na];omega
def O0(xs:List Int):(jX xs).length=1+xs.length*2:=by
 have:∀l:List Int,(l.flatMap (bF 2)).length=l.length*2:=λl=>by
  induction l with
  |nil=>rfl
  |cons x t e=>rw[g8,a1,e,ir,dm];omega
 rw[jX,a1,ir,this]
def lz{α:Type}{f:α->List Int}{l:List α}{y:α}(h:l[j]?=some y):(l.take (j+1)).flatMap f=(l.take j).flatMap f++f y:=by
 rw[fb,h,jr];simp
def zC[s:Sl p S n xs](h:Hx (oG p w g bs))(E:bs.length<=600000)(O:n<=100000):
  () 42 #[.pointer g,.slice S n c] w (LF p g w (bs++jX xs)):=by
 have P:=@bL;have C:=ae s.len;have l:=ae E;go_enter func42,ntmps42
 go_upto_region 1 with(go_at_call 41;refine(ti (k:=1) (z:=1) (x:=(n:Int)) h om ak ak rfl).mono ?_;rintro e Q ⟨rfl,F,G,p1⟩)
 go_wp2_with fail
 go_loopw [13] (λi wr=>∃j:Nat,j<=n/\i=.int .i64 j/\Hx (oG p wr g (bs++bF 1 n++(xs.take j).flatMap (bF 2)))/\Hx (Kw g w wr)) (λi _=>n-(intOf i).toNat)
 case atStart=>exact⟨0,aT _,rfl,ae (by simpa using F.o),G⟩
 case round=>
  obtain⟨j,R,rfl,m,D⟩:=hrel;have pw:=m.o.prev;by_cases r:j<n
  .obtain⟨b,off,z,rfl,ob,U,I⟩:=s.get r;have B:Hx ((bs++bF 1 (n:Int)++(xs.take j).flatMap (bF 2)).length<=1000000):=ae (by
    have J:=Hn (f:=bF 2) (q:=2) (xs.take j) λy _=>by rw[ir];exact an _
    rw[bB]at J;rw[a1,a1,ir];have:=l.o;omega)
   have K:Hx (bs++bF 1 (n:Int)++(xs.take (j+1)).flatMap (bF 2)=bs++bF 1 (n:Int)++(xs.take j).flatMap (bF 2)++bF 2 z):=ae (by
    rw[lz I.o,dg,dg,dg])
   go_wp2_with (go_at_call 41;refine(zB (k:=2) (z:=2) m B.o ak ak rfl).mono ?_;rintro e V ⟨rfl,L,M,X⟩)
   go_roundw
   case rel=>exact⟨j+1,om,by go_num,ae (by rw[K.o];exact L.o),ae (D.o.trans M.o)⟩
   case measure=>exact e6
  .obtain rfl:j=n:=om;have N:Hx (bs++jX xs=bs++bF 1 (j:Int)++(xs.take j).flatMap (bF 2)):=ae (by rw[jX,bR (by rw[<-C.o];exact an _),<-C.o,dg])
   go_wp2_with fail
   exact⟨rfl,.tuple #[],by simp[results,results42,go_sem],rfl,ae (by rw[N.o];exact m.o),D,pw⟩
end
variable{b4 cp ni np:Nat}{c3 c4:Array Value}{z0 z1 z7:Value}
structure oH(p v w:World)(g b3 b4:Nat)(c3 c4:Array Value)(bs:List Int)(q:Nat):Prop where
 wr:oG p w g bs
 kw:Kw g v w
 k3:aB w b3 84 c3
 k4:aB w b4 81 c4
 n3:b3≠g
 n4:b4≠g
 len:bs.length<=q
section
variable{v w:World}{n k q':Nat}{bs bs':List Int}{S:Option Addr}{V:dV}{ps:List Sp}
def oH.next(h:oH p v w g R b4 c3 c4 bs q)(b:oG p w' g bs')(k:Kw g w w')(e:bs'.length<=q'):oH p v w' g R b4 c3 c4 bs' q':=
 ⟨b,h.kw.trans k,k.al h.k3 h.n3 ak,k.al h.k4 h.n4 ak,h.n3,h.n4,e⟩
def oH.at(h:oH p v w g R b4 c3 c4 bs q)[aF w w']:oH p v w' g R b4 c3 c4 bs q:=
 ⟨h.wr.at,h.kw.trans (Kw.later g),h.k3.at,h.k4.at,h.n3,h.n4,h.len⟩
def J1(p v w:World)(g R b4:Nat)(c3 c4:Array Value)(bs:List Int)(q:Nat)(e:Ending)(w':World):Prop:=
 e=.returned (.tuple #[])/\Hx (oH p v w' g R b4 c3 c4 bs q)/\Hx (Kw g w w')/\aj w' p/\Bx w' R 84 c3/\Bx w' b4 81 c4
def tj(h:Hx (oH p v w g R b4 c3 c4 bs q))(hq:q<=1000000)(m:1<=k)(r:k<=8)(u:z=(k:Int)):
  () 41 #[.pointer g,.int .u64 (IntKind.u64.wrap x),z] w (J1 p v w g R b4 c3 c4 (bs++bF k x) (q+k)):=
 (zB (ae h.o.wr) (aO h.o.len hq) m r u).mono λe w' ⟨y,B,l,C⟩=>
  have b:=h.o.next (q':=q+k) B.o l.o (by have:=h.o.len;rw[a1,ir];omega)
  ⟨y,ae b,l,C,⟨b.k3⟩,⟨b.k4⟩⟩
def zD[s:Sl p S n xs](h:Hx (oH p v w g R b4 c3 c4 bs q))(hq:q<=600000)(y:n<=256):
  () 42 #[.pointer g,.slice S n c] w (J1 p v w g R b4 c3 c4 (bs++jX xs) (q+600)):=
 (zC (ae h.o.wr) (aO h.o.len hq) om).mono λe w' ⟨m,r,l,u⟩=>
  have b:=h.o.next (q':=q+600) r.o l.o (by have:=h.o.len;have z:=s.len;rw[a1,O0];omega)
  ⟨m,ae b,l,u,⟨b.k3⟩,⟨b.k4⟩⟩
def BZ(h:Hx (oH p v w g R b4 c3 c4 bs q))(hq:q<=1000000)(m:1<=k)(r:k<=8)(u:z=(k:Int)):
  () 41 #[.pointer g,.int .u64 x,z] w (J1 p v w g R b4 c3 c4 (bs++bF k x) (q+k)):=
 (ti (ae h.o.wr) (aO h.o.len hq) m r u).mono λe w' ⟨y,B,l,C⟩=>
  have b:=h.o.next (q':=q+k) B.o l.o (by have:=h.o.len;rw[a1,ir];omega)
  ⟨y,ae b,l,C,⟨b.k3⟩,⟨b.k4⟩⟩
def oH.less(h:oH p v w g R b4 c3 c4 bs q)(b:bs.length<=q')(e:bs=bs'):oH p v w g R b4 c3 c4 bs' q':=by
 subst e;exact⟨h.wr,h.kw,h.k3,h.k4,h.n3,h.n4,b⟩
def o5(o:gj):List Int:=[o.wd,o.st,o.sd,o.fr,o.tt]
def aax{o:gj}{G:Nat}(l:j<5)(b:aB w G 183 #[.pointer (some ⟨b4,2,none⟩),.pointer (some ⟨b4,3,none⟩),.pointer (some ⟨b4,4,none⟩),.pointer (some ⟨b4,5,none⟩),.pointer (some ⟨b4,6,none⟩)])
  (e:aB w b4 81 #[z0,z1,o.wd,o.st,o.sd,o.fr,o.tt,z7]):∃z i,Hx ((o5 o)[j]?=some z)/\w.cell? ⟨G,j,none⟩=some (.pointer (some ⟨b4,i,none⟩))/\w.cell? ⟨b4,i,none⟩=some (.int .i64 z):=by
 obtain rfl|rfl|rfl|rfl|rfl:j=0\/j=1\/j=2\/j=3\/j=4:=om
 .exact⟨_,2,ae rfl,b.cell 0,e.cell 2⟩
 .exact⟨_,3,ae rfl,b.cell 1,e.cell 3⟩
 .exact⟨_,4,ae rfl,b.cell 2,e.cell 4⟩
 .exact⟨_,5,ae rfl,b.cell 3,e.cell 5⟩
 .exact⟨_,6,ae rfl,b.cell 4,e.cell 6⟩
def ul{α:Type}{l:List α}{n:Nat}(h:n=l.length):l.take n=l:=bR om
def O1{I P:Option Addr}{ci:Nat}[s:Sl p A n V.o.S][i:Sl p I ni V.ins][t:du p P np ps](hV:Hx (aW ps=V.P))(h:Hx (oG p w g bs))(hl:bs.length<=100000)(hn:n<=256)(hi:ni<=256)(hp:np<=256)(K:Hx (∀x∈V.P,x.length<=256)):
  () 43 #[.pointer g,.agg #[V.o.kd,V.o.k,V.o.wd,V.o.st,V.o.sd,V.o.fr,V.o.tt,.slice A n m,.slice I ni ci,.slice P np cp]] w (LF p g w (bs++mg V)):=by
 obtain⟨CB,CP,FB⟩:=ha;obtain⟨o,ins,Y⟩:=V;dsimp only at hV K s i⊢;have L:Hx (ni=ins.length):=ae i.len;have Z:=t.all hV.o;have hg:g<w.heap.size:=by obtain⟨_,_,h1⟩:=h.o;exact h1.al.lt
 have M:w.heap.size≠g:=om;have N:w.heap.size+1≠g:=om;go_enter func43,ntmps43
 go_upto_region 2 with fail
 refine cT (λu0 p0 k30 k40=>?_);have pJ:Hx (oH p w u0 g (w.heap.size) (w.heap.size+1) _ _ bs 100000):=ae ⟨h.o.at,Kw.later g,k30.al,k40.al,M,N,hl⟩;clear M N
 go_upto_region 3 with(go_at_call 41;refine(tj (k:=1) (z:=1) pJ ak ak ak rfl).mono ?_;rintro e u1 ⟨rfl,HP,oT,p1,k31,k41⟩)
 go_upto_region 4 with(go_at_call 41;refine(tj (k:=8) (z:=8) HP ak ak ak rfl).mono ?_;rintro e u2 ⟨rfl,O,kR,p2,k32,k42⟩)
 go_wp2_with (go_at_call 90;refine yZ.mono ?_;rintro e u3 ⟨G,rfl,hG,kG,Sm⟩)
 have Q:=ae (O.o.at (w':=u3));have V6:=ae kG;have DQ:Hx (G≠g):=ae (by have:=O.o.kw.size;omega);obtain⟨B2,B⟩:=lh (bs++bF 1 o.kd++bF 8 o.k);have xh:=ae B;rw[B]at Q;clear B kG;go_loopw [25] (λi wr=>∃j:Nat,j<=5/\i=.int .i64 j/\Hx (oH p w wr g (w.heap.size) (w.heap.size+1) _ _ (B2++((o5 o).take j).flatMap (bF 2)) (100009+2*j))/\Hx (Kw g u3 wr)) (λi _=>5-(intOf i).toNat)
 case atStart=>exact⟨0,ak,rfl,ae (by simpa using Q.o),ae (Kw.refl _ _)⟩
 case round=>
  obtain⟨j,hj,rfl,l,HK⟩:=hrel;have pw:=l.o.wr.prev;have T:Bx wr w.heap.size 84 _:=⟨l.o.k3⟩;have U:Bx wr (w.heap.size+1) 81 _:=⟨l.o.k4⟩;by_cases r:j<5
  .obtain⟨z,q,J,c1,c2⟩:=aax r (HK.o.al V6.o DQ.o ak) l.o.k4;clear CB
   go_wp2_with (go_at_call 41;refine(tj (k:=2) (z:=2) l om ak ak rfl).mono ?_;rintro e u4 ⟨rfl,X,EV,p4,k34,k44⟩)
   go_roundw
   case rel=>exact⟨j+1,om,by go_num,ae (X.o.less (by have:=X.o.len;omega) (by rw[lz J.o,dg])),ae (HK.o.trans EV.o)⟩
   case measure=>exact e6
  obtain rfl:j=5:=om;have rv:Hx (oH p w wr g (w.heap.size) (w.heap.size+1) _ _ (B2++(o5 o).flatMap (bF 2)) 100100):=ae (l.o.less (by have:=l.o.len;omega) rfl);clear r hj l HK
  go_upto_region 10 with(go_at_call 42;refine(zD rv ak hn).mono ?_;rintro e u6 ⟨rfl,Jp,PU,p6,k36,k46⟩)
  go_upto_region 11 with(go_at_call 41;refine(BZ (x:=(ni:Int)) (k:=1) (z:=1) Jp om ak ak rfl).mono ?_;rintro e u7 ⟨rfl,C,xj,p7,k37,k47⟩)
  go_wp2_with fail
  obtain⟨B3,D⟩:=lh (B2++(o5 o).flatMap (bF 2)++jX o.S++bF 1 (ni:Int));have HB3:=ae D;rw[D]at C;clear D;go_loopw [49] (λi wx=>∃j:Nat,j<=ni/\i=.int .i64 j/\Hx (oH p w wx g (w.heap.size) (w.heap.size+1) _ _ (B3++(ins.take j).flatMap (bF 2)) (101000+2*j))) (λi _=>ni-(intOf i).toNat)
  case atStart=>exact⟨0,aT _,rfl,ae (C.o.less (by have:=C.o.len;simpa using aO this ak) aG)⟩
  case round=>
   obtain⟨j,hj,rfl,l⟩:=hrel;have pw:=l.o.wr.prev;have T:Bx wr w.heap.size 84 _:=⟨l.o.k3⟩;have U:Bx wr (w.heap.size+1) 81 _:=⟨l.o.k4⟩;by_cases r:j<ni
   .obtain⟨b,off,z,rfl,ob,vz,J⟩:=i.get r
    go_wp2_with (go_at_call 41;refine(tj (k:=2) (z:=2) l om ak ak rfl).mono ?_;rintro e u8 ⟨rfl,u,Z9,p8,k38,k48⟩)
    go_roundw
    case rel=>exact⟨j+1,om,by go_num,ae (u.o.less (by have:=u.o.len;omega) (by rw[lz J.o,dg]))⟩
    case measure=>exact e6
   obtain rfl:j=ni:=om;have u:Hx (oH p w wr g (w.heap.size) (w.heap.size+1) _ _ (B3++ins.flatMap (bF 2)) 102000):=ae (l.o.less (by have:=l.o.len;omega) (by rw[ul L.o]));clear r hj l
   go_upto_region 17 with(go_at_call 41;refine(BZ (x:=(np:Int)) (k:=1) (z:=1) u om ak ak rfl).mono ?_;rintro e u9 ⟨rfl,E,RN,p9,k39,k49⟩)
   go_wp2_with fail
   obtain⟨B4,F⟩:=lh (B3++ins.flatMap (bF 2)++bF 1 (np:Int));have UQ:=ae F;rw[F]at E;clear F;go_loopw [67] (λi wx=>∃k:Nat,k<=np/\i=.int .i64 k/\Hx (oH p w wx g (w.heap.size) (w.heap.size+1) _ _ (B4++(Y.take k).flatMap jX) (103000+600*k))) (λi _=>np-(intOf i).toNat)
   case atStart=>exact⟨0,aT _,rfl,ae (E.o.less (by have:=E.o.len;simpa using aO this ak) aG)⟩
   case round=>
    obtain⟨k,hk,rfl,l⟩:=hrel;have pw:=l.o.wr.prev;have T:Bx wr w.heap.size 84 _:=⟨l.o.k3⟩;have U:Bx wr (w.heap.size+1) 81 _:=⟨l.o.k4⟩;by_cases r:k<np
    .obtain⟨b,off,A1,m1,c1,zs1,rfl,ob,vz,s1,_,J⟩:=Z.o.2 k r;have pm:m1<=256:=by rw[s1.len];exact K.o _ (aC J.o)
     go_wp2_with (go_at_call 42;refine(zD l om pm).mono ?_;rintro e u10 ⟨rfl,y,acK,p10,acL,acM⟩)
     go_roundw
     case rel=>exact⟨k+1,om,by go_num,ae (y.o.less (by have:=y.o.len;omega) (by rw[lz J.o,dg]))⟩
     case measure=>exact e6
    obtain rfl:k=np:=om;have HE:Hx (bs++mg ⟨o,ins,Y⟩=B4++(Y.take k).flatMap jX):=ae (by
     rw[ul Z.o.1,<-UQ.o,<-HB3.o,<-xh.o,L.o,Z.o.1];simp[mg,o5,zA])
    go_wp2_with fail
    exact⟨rfl,.tuple #[],by simp[results,results43,go_sem],rfl,ae (by rw[HE.o];exact l.o.wr),ae l.o.kw,pw⟩
end
variable{A2:Option Addr}
section
variable{w:World}{n k o B:Nat}{bs:List Int}{S:Int}{N:aU}
theorem aI.R9(h:aI w B 5 1 A c n (Eh bs))(hb:iy bs)(u:n=bs.length):Bs w A n bs:=
 ⟨λj z l=>by
  obtain⟨g,e,y⟩:=h.cell (j:=j) (v:=.int .u8 z) (by rw[Eh,bj,l];rfl);have r:=hb z (aC l);exact⟨g,0,e,h.lt _ e,by rw[bX];exact y,r.1,r.2⟩,u⟩
def J2[s:Bs w (some ⟨b,o,none⟩) n zs](X:n<=1000000):() 91 #[.slice (some ⟨b,o,none⟩) n c] w (λe w'=>∃A c,e=.returned (.slice A n c)/\aI w' w.heap.size 5 1 A c n (Eh zs)/\aj w' w):=by
 obtain⟨i,hi,j⟩:=bD.1 (show(prog.info? 5).map (λi=>(i.zero,i.size,i.bytes))=some (some (.int .u8 0),1,1)from by kernel_rfl);simp only[dL]at j;obtain⟨l,r,y⟩:=j;have F:n=zs.length:=s.len;have p1:aj (w.alloc (.cells #[] 5)) w:=ao;have G:(w.alloc (.cells #[] 5)).ownsRow w.heap.size 5 1 (.slice w.heap.size 0 0) 0 []:=aI.mk' (cur:= #[]) (an _) (hx w _) (an _) (aT _) rfl rfl;have I:Bs (w.alloc (.cells #[] 5)) (some ⟨b,o,none⟩) n zs:=ao;have R:=λJ=>vN (P:=prog) (w.alloc (.cells #[] 5)) w.heap.size 22 J 5 i _ 1 1 aq hi l r y rfl ak _ 0 _ G ⟨b,o,none⟩ n c (zs.map (Value.int .u8)) (by simp[F]) (λk u hu=>by
  rw[bj]at hu;obtain⟨z,K,rfl⟩:=bD.1 hu;rw[bQ];obtain⟨Y,Z,e,hb,L,_⟩:=I.rd k z K;injection e with e;injection e with M O;subst M O
  exact L) (Lo zs) (by unfold maxLen;omega) om aG
 obtain⟨v',w',hr,C,hg,-,-⟩:=R 22;have Q:∀W,(binOp .eql 22 (.slice (some ⟨b,o,none⟩) n c) (.slice none 0 0)).run prog W=.ok (.bool false) W:=λW=>Lib.run_eql_slice_nil W 22 5 _ _ _ _ _ aq;have T:=ae C;have U:=ae hg;clear R G C hg F hi l r y;go_enter func91,ntmps91
 go_wp2_with (at_builtin;refine Lib.wpList_append_run _ rfl _ _ 22 22 rfl _ _ rfl rfl _ _ hr ?_)
 go_ret;have hb:Below w w w':=((aY w w).alloc (an _) _).grown U.o aG (λk E=>by
  rw[b0]at E;injection E with E
  show w.heap.size<=k
  exact dE E)
 have D:=T.o;rw[bX,kj]at D;rcases D.2 with⟨rfl,V⟩|⟨g,cap,cur,rfl,_⟩
 .rw[V]at D⊢;exact⟨none,0,rfl,D,⟨hb⟩⟩
 .exact⟨_,_,rfl,D,⟨hb⟩⟩
def T7(h:Hx (oG p w g bs))(hb:iy bs)(I:bs≠[])(J:bs.length<=4000)(hS:Hx (ip 0 bs=S)){zs:List Int}(K:Hx (bs++bF 4 S=zs))(L:Hx (zs.length=k)):
  () 44 #[.pointer g] w (λe w'=>∃A c,e=.returned (.slice A k c)/\Bs w' A k zs/\k<=c/\aj w' w):=by
 have Z:=@aa;have FB:=@aP;obtain⟨A,c,r⟩:=h.o;have Q:Bx w g 112 #[.slice A bs c]:=⟨r.al⟩;have M:=aI.R9 r.row hb rfl;obtain⟨b,o,rfl⟩:∃b o,A=some ⟨b,o,none⟩:=by
  obtain⟨x,t,R⟩:∃x t,bs=x::t:=by cases bs with
   |nil=>exact absurd rfl I
   |cons x t=>exact⟨x,t,rfl⟩
  obtain⟨b,o,e,_⟩:=M.rd 0 x (by rw[R];rfl);exact⟨b,o,e⟩
 have u:=ae hb;obtain⟨y,C⟩:=lh bs.length;have D:=ae C;rw[C]at Q M J;have E:∀(W:World) (q:Nat),aj W w->() 92 #[.slice (some ⟨b,o,none⟩) y q] W (aD W (.int .u32 S)):=λW q _=>by rw[<-hS.o];exact Lh J
 clear r hb C I;go_enter func44,ntmps44
 go_upto_region 2 with(go_at_call 91;refine(J2 om).mono ?_;rintro e T ⟨U,c1,rfl,r1,_⟩)
 refine aw (λO p2 k2=>?_);have V:Hx (oG w O T bs):=ae ⟨U,c1,⟨ab _ _,ai,by rw[D.o];exact k2.al,by rw[D.o];exact aI.at r1⟩⟩;have F:aj O w:=ab _ _
 go_wp2_with (first|(go_at_call 92;refine(E _ _ F).mono ?_;rintro e X ⟨rfl,p3⟩)|(go_at_call 41;refine(zB (k:=4) (z:=4) (ae (V.o.at (w':=X))) (by rw[D.o];omega) ak ak rfl).mono ?_;rintro e u4 ⟨rfl,Y,K4,p4⟩;obtain⟨P,c4,j⟩:=Y.o;have k4:=j.al.cell 0))
 refine a8 (v:=.slice P (bs++bF 4 S).length c4) (by simp[results,results44,go_sem]) rfl ?_;have G:iy zs:=λz l=>by
  rw[<-K.o]at l;rcases bJ.1 l with h9|h9
  .exact u.o z h9
  .simp only[bF,bT,kG,lN]at h9;omega
 have hr:=j.row;rw[K.o,L.o]at hr⊢;exact⟨P,c4,rfl,hr.R9 G L.o.symm,hr.le,ab _ _⟩
def O2{α:Type}{f:α->List Int}(l:List α)(j:Nat):((l.take j).flatMap f).length<=(l.flatMap f).length:=by
 conv=>rhs;rw[<-de j l,jr,a1]
 exact Nat.le_add_right _ _
def J3[a:aQ w A n A2 m N](hf:Hx N.fits)(hs:Hx N.small)(E:Hx (a6 N=0))(C:Hx (N.dd.length<256/\∀v∈N.nodes,Gp v))(hb:Hx (iy (ka N)))(hS:Hx (ip 0 (ka N)=S))(hz:Hx (ka N++bF 4 S=zs))(hk:Hx (zs.length=k))(hl:k<=4000):
  () 15 #[.agg #[.slice A n c,.slice A2 m d]] w (λe w'=>∃A c,e=.returned (.tuple #[.slice A k c,au])/\Bs w' A k zs/\k<=c/\aj w' w):=by
 obtain⟨CB,CP,FB⟩:=ha;have F:Hx (m=N.nodes.length):=ae a.len;have G:Hx ((ka N).length<=4000):=ae (by
  have r:=hk.o;rw[<-hz.o,a1]at r;omega)
 have hn:n<=256:=by have:=a.dd.len;have:=C.o.1;omega
 have hm:m<=1000:=by rw[F.o];exact hs.o.1
 go_enter func15,ntmps15
 go_upto_region 1 with fail
 refine aw (λu0 _ kn=>?_)
 go_upto_region 4 with(first|(go_at_call 40;(with_reducible refine(f0 hf hs E).mono ?_);rintro e u ⟨rfl,_⟩))
 obtain⟨p,rfl⟩:=lg u
 go_upto_region 5 with fail
 refine aw (λu1 p1 k1=>?_);obtain⟨g,hg⟩:=lh p.heap.size;rw[hg]at k1⊢;have J:Hx (oG p u1 g []):=ae ⟨none,0,⟨ao,dE hg,k1.al,wo _ _ _ _⟩⟩;clear hg k1
 go_upto_region 6 with(go_at_call 41;refine(ti (k:=4) (z:=4) (x:=1096042545) J ak ak ak rfl).mono ?_;rintro e u2 ⟨rfl,H2,K2,p2⟩)
 have aP:aQ p A n A2 m N:=ao;have sI:Sl p A n N.dd:=aP.dd;obtain⟨K,y⟩:=lh (bF 4 1096042545++jX N.dd++bF 2 (m:Int));have L:=ae y;have M:Hx (([]++bF 4 1096042545++jX N.dd).length<=1000000):=ae (by
  have r:=G.o;unfold ka at r;simp only[a1,nn]at r⊢;omega)
 have D:Hx (ka N=K++N.nodes.flatMap mg):=ae (by rw[<-y,F.o];rfl);clear y
 go_upto_region 7 with(go_at_call 42;refine(zC H2 ak om).mono ?_;rintro e u3 ⟨rfl,H3,K3,p3⟩)
 go_wp2_with (go_at_call 41;refine(ti (k:=2) (z:=2) (x:=(m:Int)) H3 M.o ak ak rfl).mono ?_;rintro e u4 ⟨rfl,H4,K4,p4⟩)
 go_loopw [25] (λi wr=>∃j:Nat,j<=m/\i=.int .i64 j/\Hx (oG p wr g (K++(N.nodes.take j).flatMap mg))) (λi _=>m-(intOf i).toNat)
 case atStart=>exact⟨0,aT _,rfl,ae (by have:=H4.o;rw[kj,L.o]at this;simpa using this)⟩
 case round=>
  obtain⟨j,hj,rfl,O⟩:=hrel;have pw:=O.o.prev;by_cases Q:j<m
  .obtain⟨b,q,o,A1,n1,c1,I,ni,ci,ins,P,np,cp,ps,rfl,ob,⟨v0,v1,v2,v3,v4,v5,v6,v7,v8,v9⟩,sS,sI,sP,_,_,_,_,ev⟩:=aP.node Q;have l:=C.o.2 _ (aC ev.o);have R:n1<=256:=by have:=sS.len;have:=l.s;dsimp only at this;omega
   have T:ni<=256:=by have:=sI.len;have:=l.i;dsimp only at this;omega
   have U:np<=256:=by have r:=sP.len;have h2:=l.p;dsimp only at h2;rw[cj]at h2;omega
   have X:Hx (∀x∈aW ps,x.length<=256):=ae λx hx=>gV (l.ps x hx);have HQ:Hx ((K++(N.nodes.take j).flatMap mg).length<=100000):=ae (by
    have r:=G.o;rw[D.o]at r;have:=O2 (f:=mg) N.nodes j;rw[a1]at r⊢;omega)
   clear l
   go_upto_region 11 with fail
   refine aw (λu5 p5 k5=>?_);have Y:=ae (O.o.at (w':=u5))
   go_wp2_with (go_at_call 43;refine(O1 (V:=⟨o,ins,aW ps⟩) (ae rfl) Y HQ.o R T U X).mono ?_;rintro e u6 ⟨rfl,H6,K6,p6⟩)
   go_roundw
   case rel=>exact⟨j+1,om,by go_num,ae (by rw[lz ev.o,<-dg];exact H6.o)⟩
   case measure=>exact e6
  obtain rfl:j=m:=om;have Z:Hx (oG p wr g (ka N)):=ae (by rw[D.o,<-ul F.o];exact O.o);have lA:ka N≠[]:=by rw[ka];simp[bF]
  go_wp2_with (go_at_call 44;refine(T7 Z hb.o lA G.o hS hz hk).mono ?_;rintro e u7 ⟨A7,c7,rfl,s7,hc7,_⟩)
  go_ret2;exact⟨A7,c7,rfl,ao,hc7,ab _ _⟩
end
variable{BA K PA XA XB:Option Addr}{cb cx dx i:Nat}{W:World}{v:Value}
section
variable{w:World}{n:Nat}{xz:List Int}{ps:List Tn}{N:aU}
def T8(hb:iy zs)(h:GC zs=0):ka (t8 zs)++bF 4 (ip 0 (ka (t8 zs)))=zs/\iy (ka (t8 zs))/\(t8 zs).dd.length<256/\∀v∈(t8 zs).nodes,Gp v:=by
 unfold GC at h;by_cases hr:t7 zs=0
 .rw[ah hr]at h;have b:iy (zs.take (zs.length-4)):=λz e=>hb z (cG e);cases hm:(ot (zs.take (zs.length-4))).nd.2 with
  |none=>
   rw[hm]at h;dsimp only at h;exact absurd h ak
  |some R=>
   rw[hm]at h;dsimp only at h;by_cases j:(ot (zs.take (zs.length-4))).m4.1=1096042545
   .rw[ah j]at h;by_cases l:R=[]
    .obtain⟨C,D,-,E⟩:=Lj b j (by rw[hm,l]);unfold t8;rw[C];refine⟨?_,b,D,E⟩;unfold t7 at hr;by_cases r:zs.length<8
     .rw[ah r]at hr;exact absurd hr ak
     .rw[ag r]at hr;by_cases u:num (zs.drop (zs.length-4))=ip 0 (zs.take (zs.length-4))
      .have y:=t5 (zs.drop (zs.length-4)) λz e=>hb z (dC e);rw[dZ,show zs.length-(zs.length-4)=4 from om,u]at y;rw[y,de]
      .rw[ag u]at hr;exact absurd hr ak
    .rw[ag l]at h;exact absurd h ak
   .rw[ag j]at h;exact absurd h ak
 .rw[ag hr]at h;exact absurd h hr
def T9{bs:List Int}[h:Bs W A q bs]:(convert 22 9 (.slice A q c)).run prog W=.ok (.string (strOfNums bs)) W:=by
 cases bs with
 |nil=>
  obtain rfl:q=0:=h.len;rw[run_convert_bytes_string W 22 9 5 A 0 c underlying22 underlying5 underlying9];cases A with
  |none=>rfl
  |some a=>exact run_bytesToString W a 0 c [] rfl
 |cons x t=>
  obtain⟨b,o,rfl,-⟩:=h.rd 0 x rfl;refine run_convert_bytes_arg W 22 5 underlying22 underlying5 b o q c (x::t) h.len.symm (λi hi=>?_) 9 underlying9;obtain⟨y,o1,z,e,-,j,-,-,l⟩:=h.get hi;injection e with e;injection e with r u _;subst r u
  rw[j,aX,l.o];rfl
def aay(w:World)(d:Nat)(a:Int):(Op.equalIn (d+1) 3 (.int .i64 a) (.int .i64 a)).run prog w=.ok true w:=by
 simp[Op.equalIn,dU underlying3]
def Ua(w:World){xs:Array Value}(h:xs[i]?=some v):(part 3 xs i).run prog w=.ok v w:=by
 simp[part,isAgg,dU underlying3,h]
def O3(W:World)(a b c d:Int):(Op.equalIn 10000 45 (.agg #[a,b,c,d]) (.agg #[a,b,c,d])).run prog W=.ok true W:=by
 have h:∀n:Nat,(Op.equalIn (n+2) 45 (.agg #[a,b,c,d]) (.agg #[a,b,c,d])).run prog W=.ok true W:=by
  intro n;rw[Op.equalIn];simp[dU underlying45,aay,Ua]
 exact h 9998
def Ub{V:List (Int×Int)}(h:T6 N pl cap=(z,V,(y,P2,P3,P4),E)):V.length<=65536:=by
 unfold T6 at h
 repeat' split at h
 all_goals
  simp only[dL]at h;obtain⟨-,rfl,-⟩:=h
  first|exact aT _|exact uk (by assumption)
def tk[s:Bs w BA zs.length zs][tp:Ts w PA ps.length ps][sx:Sl w XA xz xz][xx:Sl w XB xs xs][lx:Le xs.length dx][ix:dp xs](z:zs.length<=cb)(hb:Hx (∀t∈ps,t.zs.length<=17592186043904/\t.xs.length<=17592186043904))(U:Hx (∀t∈ps,t.zs.length<=t.c))(C:ps.length<=140737488351232)(X:xz.length<=17592186043904/\xs.length<=17592186043904):
  () 4 #[.agg #[.slice BA zs cb,.slice PA ps cp,.slice XA xz cx,.slice XB xs dx,pl,cap]] w (O5 w):=by
 have CB:=@aa;have FB:=@aP;have Y:Hx (iy zs):=ae s.all;obtain⟨x,O⟩:=lg ((xz,xs));have Z:Sl w XA xz x.1:=by rw[O];exact sx
 have xx1:Sl w XB xs x.2:=by rw[O];exact xx
 have ix1:dp x.2:=by rw[O];exact ix
 obtain⟨y1,l⟩:=lh zs.length;obtain⟨y2,D⟩:=lh ps.length;obtain⟨y3,F⟩:=lh xz.length;obtain⟨y4,G⟩:=lh xs.length;have I:=ae l;clear O sx xx ix;rw[l]at s z⊢;rw[D]at tp C⊢;rw[F]at Z X⊢;rw[G]at xx1 lx X⊢;clear l D F G;go_enter func4,ntmps4
 go_upto_region 1 with fail
 refine aw (λu0 p0 k0=>?_)
 go_upto_region 2 with(go_at_call 7;refine(SE z hb U C X).mono ?_;rintro e u1 ⟨A,n,c,B,m,d,g,rfl,hg,_⟩)
 refine aw (λu2 p2 k2=>?_);cases g with
 |false=>
  clear hg
  go_wp2_with (go_at_call 8;refine zk.mono ?_;rintro e u3 ⟨rfl,_⟩)
  go_ret;exact⟨rfl,a7 w _⟩
 |true=>
  obtain⟨N,b,aN,CC,MM⟩:=hg rfl;clear hg;obtain⟨-,j⟩:=uU b.fw;obtain⟨P,e2,e3,e4⟩:=T8 Y.o b.dc;rw[b.dv]at P e2 e3 e4;obtain⟨S,hS⟩:=lh (ip 0 (ka N));rw[hS]at P;obtain⟨⟨Q,V,⟨P1,P2,P3,P4⟩,E⟩,hQ⟩:=lh (T6 N pl cap);obtain⟨y,hy⟩:=lh V.length;have vg:=Ub hQ;rw[hy]at vg;obtain⟨S9,J⟩:=lh (strOfNums zs);have vr:=ae (And.intro e3 e4);have HBE:=ae e2;have HZ:=ae P;have Dt:=ae hS;have L:=ae hQ;have R:=ae hy;have HF:=ae b.fi;have HS:=ae b.sm;have u:=ae b.hE;have HDE:=ae b.dc;have HDV:=ae b.dv;have vB:=ae J;have hm:m<=12:=by rw[aN.len];exact j
  have M:=ae j;have hc1:=b.c1;have hln:y1<=1000:=by have:=b.ln;rw[I.o]at this;omega
  have C9:∀{W:World} {A:Option Addr} {c:Nat} [Bs W A y1 zs],(convert 22 9 (.slice A y1 c)).run prog W=.ok (.string S9) W:=λ{W A c} _=>by rw[<-vB.o];exact T9
  clear b P e2 e3 e4 hS hQ hy J j
  go_upto_region 5 with(go_at_call 15;refine(J3 HF HS u vr HBE Dt HZ I om).mono ?_;rintro e u3 ⟨AE,cE,rfl,sE,hcE,_⟩)
  go_upto_region 6 with(go_at_call 16;refine(rC hln hcE HDE HDV).mono ?_;rintro e u4 h9;obtain⟨A2,n2,c2,B2,m2,d2,rfl,aN2,_,_,_,_⟩:=(h9.resolve_right λk=>k.1 rfl).2)
  refine aw (λu5 p5 k5=>?_);have tE:m2<=12:=by rw[aN2.len];exact M.o
  go_upto_region 7 with(go_at_call 17;refine(BY HF HS u hm om L).mono ?_;rintro e u6 ⟨AC,cC,rfl,oC,_⟩;rw[R.o])
  refine aw (λu7 p7 k7=>?_)
  go_upto_region 8 with(go_at_call 17;refine(BY HF HS u tE om L).mono ?_;rintro e u8 ⟨AD,cD,rfl,oD,_⟩;rw[R.o])
  refine aw (λT p9 k9=>?_);have iC:Is T AC y V:=⟨(bM.at (w':=T) oC).rd,R.o.symm⟩;have iD:Is T AD y V:=⟨(bM.at (w':=T) oD).rd,R.o.symm⟩;have EQS:=O3
  go_wp2_with (first|(go_at_call 18;refine(OY om om (r:=true) (ae (ef rfl))).mono ?_;rintro e v1 ⟨rfl,_⟩)|(go_at_call 8;refine zk.mono ?_;rintro e v2 ⟨rfl,_⟩))
  go_ret;exact⟨rfl,a7 w _⟩
end
section
open Go.ChangeShapes Go.WideShapes Go.ChangeAt Go.RowKit
def rF(os:Os)(b:os.Started)(H:Type)(enc:TypeId×Value->H):
  ReturnsInHanded {} Tryz.checked os 4 .any (Rows.wholeFilesSpec.pre6 enc Tryz.prog Tryz.f4 Rows.wholeFilesRow.domain false) (Rows.wholeFilesSpec.post enc Tryz.prog Tryz.f4 false true false false):=by
 refine returnsInHanded_of_change_sized (C:=Tryz.checked) zE b aq Tryz.func4
  (ChangeSpec.witness6 (enc:=enc) (C:=Tryz.checked) false ⟨#[],#[.agg #[.slice none 0 0,.slice none 0 0,.slice none 0 0,.slice none 0 0,au,au]],[]⟩ 8 aq aq aq aq) ?_
 intro W base args L gs before l M _ r _;have B:(DataW.weightsEach Tryz.prog (Tryz.f4.params.toList++Rows.wholeFilesSpec.plain.varTypes Tryz.prog) (L++gs)).all (· <=reachBytes)=true:=r;have u:∀(j:Nat) t v,Tryz.f4.params[j]?=some t->args[j]?=some v->Value.okWide Tryz.prog W .any base t v:=l;have F:=M;obtain⟨p,q,D,hV,rfl,_,_⟩:=M;have G:DataW.TrodAll enc Tryz.prog W 0 (λ_=>true) true Tryz.f4.params.toList args.toList L p:=D;rw[Tryz.params4]at G u B;have E:=G;obtain⟨v0,O,d0,P,p0,q0,I,rfl,rfl,Q,r0⟩:=trodAll_cons G;obtain⟨rfl,rfl,rfl⟩:=trodAll_nil r0;obtain rfl:args= #[v0]:=by cases args;simp_all
 obtain⟨rfl,rfl⟩:=trodVars_none hV;obtain⟨BA,cb,zs,PA,cp,ps,XA,cx,N,XB,dx,xs,pl,cap,rfl,s0,J,m,K,y,R,l1⟩:=DV (u 0 30 v0 rfl rfl) Q (Pc B (j:=0) rfl rfl);have S:Ts W PA ps.length ps:=⟨m.rd,rfl⟩;have T:Sl W XA N N:=⟨K.rd,rfl⟩;have U:Sl W XB xs xs:=⟨y.rd,rfl⟩;have V:Le xs.length dx:=⟨y.2.1⟩;have X:dp xs:=⟨λz Y=>wG (y.2.2.2 z Y)⟩;clear D l r;refine(tk J (ae m.big) (ae m.aaH) (by have:=m.len;omega) ⟨R,l1⟩).mono λe W' ⟨Z,a7⟩=>?_;subst Z;exact⟨_,rfl,_,_,_,[],_,[],F,trodAll_mk1 (shut_bool Tryz.underlying4 _),wF Cy (by decide+kernel) E a7,rfl,a7.frame _,λh=>by cases h⟩
theorem wholeFiles_holds:Rows.WholeFilesSaid:=
 OpenClaim.holds_of_wide 4 Tryz.f4 rfl rfl rfl rfl rfl rfl rfl ⟨rfl,rfl,rfl,rfl,rfl⟩ rfl rfl rfl rfl rfl tn Tryz.func4 tm
  (nm aq) (by unfold Func.isWrapper;first|(rw[ah (by decide+kernel)];kernel_rfl)|(rw[ag (by decide+kernel)];exact⟨rfl,rfl⟩))
  (λos b H e _=>rF os b H e)
end
