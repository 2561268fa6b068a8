/- Lemmas. No condition. -/
import Derived.Test.YtmkjnlifimffkaaGreatS05
import Derived.Test.YtmkjnlifimffkaaGreatS18
namespace Go.Proofs.YtmkjnlifimffkaaGreat
open Go.RowKit
set_option linter.all false
set_option maxRecDepth 100000
set_option maxHeartbeats 16000000
section
theorem Zq(a b:Int)(s:Nat)(l:0<=a)(r:a*2^s<=18446744073709551615)(u:0<=b)(y:b<2^s)(B:b<=18446744073709551615):bits .or .u64 (a*2^s) b=a*2^s+b:=by
 obtain⟨n,rfl⟩:=eF l;obtain⟨m,rfl⟩:=eF u;have j:(n:Int)*2^s=((n*2^s:Nat):Int):=by rw[yx,H8];rfl
 have z:((2:Int)^s)=((2^s:Nat):Int):=by rw[H8];rfl
 rw[j]at r;rw[z]at y;rw[j,WS (n*2^s) m om om];have e:n*2^s|||m=n*2^s+m:=by
  have:=Po (i:=s) (b:=m) om n;rw[Ht];omega
 rw[e];omega
theorem ajV(hi lo y:Int)(w:World)(h0:0<=hi)(h1:hi<y)(h2:y<=18446744073709551615)(h3:0<=lo)(h4:lo<=18446744073709551615):
  Calls Tryz.prog 222 #[.int .u64 hi,.int .u64 lo,.int .u64 y] w fun e w'=>e=.returned (.tuple #[.int .u64 ((hi*18446744073709551616+lo)/y),.int .u64 ((hi*18446744073709551616+lo)%y)])/\Below w.heap.size w w':=by
 by_cases hz:hi=0
 ·subst hz;go_enter Tryz.func222,Tryz.ntmps222
  go_wp2_with fail
  go_big_quiet (fail)
  go_wp2_with fail
  go_ret2;exact⟨au,below_drewN (bq _ _) _⟩
 ·have hz1:(hi==0)=false:=by simpa using hz
  have hz2:1<=hi:=om;clear hz;go_enter Tryz.func222,Tryz.ntmps222
  go_wp2_with fail
  refine(afT y w om h2).mono ?_;rintro e w1 ⟨s,rfl,rfl,s1,s2,s3⟩;have hD:0<(2:Int)^s:=Pw ah;have hE:0<(2:Int)^(64-s):=Pw ah;obtain⟨m1,m2,m3,m4,m5,m6,m7⟩:=ajS hD hE (ajU s s1) h0 h1 h3 h4 s3;have eO:=Zq hi (lo/2^(64-s)) s h0 m2 m3 m4 om;have eL:IntKind.u64.wrap (lo*2^s)=lo*2^s%18446744073709551616:=cZ _;have hL0:0<=lo*2^s%18446744073709551616:=om;have hL1:lo*2^s%18446744073709551616<=18446744073709551615:=om;generalize F8:hi*18446744073709551616+lo=N at*;generalize Jc:lo*2^s%18446744073709551616=L at*;generalize hUU:hi*2^s+lo/2^(64-s)=u at*;have FIN:Hid (∀S q0 v v2:Int,S*(y*2^s)+v=u*4294967296+L/4294967296->q0*(y*2^s)+v2=v*4294967296+L%4294967296->0<=v2->v2<y*2^s->S*4294967296+q0=N/y/\v2/2^s=N%y):=
   ae (fun S q0 v v2 a b c d=>ajT hD om m7 a b c d)
  have eA:=Me (y*2^s) om s3;have eB:=Me L hL0 hL1;have l:0<=y*2^s%4294967296:=om;have F:y*2^s%4294967296<4294967296:=om;have m:2147483648<=y*2^s/4294967296:=om;have Ng:y*2^s/4294967296<4294967296:=om;have D:Hid (y*2^s/4294967296*4294967296+y*2^s%4294967296=y*2^s):=ae om;have hd1:0<=L/4294967296:=om;have Nh:L/4294967296<4294967296:=om;have hd0:0<=L%4294967296:=om;have G:L%4294967296<4294967296:=om;have xy:=ae F8;clear m7 F8 Jc hUU;generalize hYe:y*2^s=Y at*;generalize atQ:Y/4294967296=y1 at*;generalize ajX:Y%4294967296=y0 at*;generalize atS:L/4294967296=d1 at*;generalize ajY:L%4294967296=d0 at*;clear ajX ajY;have Ni:=Nc m Ng l F m5 (by rw[D.out];exact m6) hd1 Nh;have DL1:=Ja (y1:=y1) (y0:=y0) (u:=u) (d:=d1) m l (by rw[D.out];exact m6) Nh;obtain⟨g1,g2,g3⟩:=Nf (u:=u) (y1:=y1) m5 om;have xL:=Ni.high;have E:=Ni.q0;generalize hq:u/y1=q at*;generalize hre:u-q*y1=r at*;have Zr:=ae Ni;clear Ni
  go_wp2_with fail
  go_loop [15,16] (fun a b=>∃q r:Int,a=.int .u64 q/\b=.int .u64 r/\y7 y1 y0 u d1 q r/\r<4294967296) (fun a _=>(intOf a).toNat)
  case atStart=>exact⟨q,r,by rw[hq],rfl,Zr.out,om⟩
  case round=>
   clear hq hre xL E Zr g1 g2 g3;obtain⟨q,r,rfl,rfl,hdk,hr4⟩:=hrel;have xL:=hdk.high;have E:=hdk.q0;have hr0:=hdk.r0;have Zt:0<=(u*4294967296+d1)/(y1*4294967296+y0):=yE om om;have HU:Hid (u<y1*4294967296+y0):=ae (by rw[D.out];exact m6);have HD:=ae hdk;clear hdk;by_cases hbig:4294967296<=q
   ·have j:=Cg HD.out m l HU.out Nh (.inl hbig);have HN:=ae (Ch HD.out m Zt j);have DZ:1<=q:=om;clear j;by_cases B:4294967296<=r+y1
    ·have HQ:=ae (Ci HN.out m l F hd1 om B);obtain⟨hv0,hv1⟩:=wu (T:=u*4294967296+d1) (Y:=Y) (q:=(q-1)) (by rw[<-D.out];exact HQ.out) om;have Jd:Hid ((q-1)<4294967296):=ae (by have:=HQ.out;omega);have Zu:0<=(q-1):=by have:=HQ.out;omega
     generalize Zv:(q-1)=S at*;have HV:Hid (S*Y+(u*4294967296+d1-S*Y)=u*4294967296+d1):=ae om;have Zw:IntKind.u64.wrap (IntKind.u64.wrap (IntKind.u64.wrap (u*4294967296)+d1)-IntKind.u64.wrap (S*Y))=u*4294967296+d1-S*Y:=by
      rw[cZ,cZ,cZ,cZ];omega
     have hq11:=Jd.out;generalize Je:u*4294967296+d1-S*Y=v at*;clear Je;obtain⟨g1,g2,g3⟩:=Nf (u:=v) (y1:=y1) hv0 om;have U:=Nc m Ng l F hv0 (by rw[D.out];exact hv1) hd0 G;have Zx:=Ja (y1:=y1) (y0:=y0) (u:=v) (d:=d0) m l (by rw[D.out];exact hv1) G;have xL:=U.high;have E:=U.q0;generalize hpe:v/y1=p at*;generalize hte:v-p*y1=t at*;have V:=ae U;clear U
     go_wp2_with fail
     go_loop [18,16] (fun a b=>∃p t:Int,a=.int .u64 p/\b=.int .u64 t/\y7 y1 y0 v d0 p t/\t<4294967296) (fun a _=>(intOf a).toNat)
     case atStart=>exact⟨p,t,rfl,rfl,V.out,om⟩
     case round=>
      clear hpe hte xL E V g1 g2 g3;obtain⟨p,t,rfl,rfl,C,Ri⟩:=hrel;have xL:=C.high;have E:=C.q0;have hr0:=C.r0;have I:0<=(v*4294967296+d0)/(y1*4294967296+y0):=yE om om;have mP:Hid (v<y1*4294967296+y0):=ae (by rw[D.out];exact hv1);have J:=ae C;clear C;by_cases hbig2:4294967296<=p
      ·have j:=Cg J.out m l mP.out G (.inl hbig2);have K:=ae (Ch J.out m I j);have DZ:1<=p:=om;clear j;by_cases B:4294967296<=t+y1
       ·have z:=ae (Ci K.out m l F hd0 om B);obtain⟨M,O⟩:=wu (T:=v*4294967296+d0) (Y:=Y) (q:=(p-1)) (by rw[<-D.out];exact z.out) om;have P:Hid ((p-1)<4294967296):=ae (by have:=z.out;omega);have X:0<=(p-1):=by have:=z.out;omega
        generalize Z:(p-1)=p1 at*;have HX:Hid (p1*Y+(v*4294967296+d0-p1*Y)=v*4294967296+d0):=ae om;have Cj:IntKind.u64.wrap (IntKind.u64.wrap (IntKind.u64.wrap (v*4294967296)+d0)-IntKind.u64.wrap (p1*Y))=v*4294967296+d0-p1*Y:=by
         rw[cZ,cZ,cZ,cZ];omega
        have Ck:=P.out;generalize Q:v*4294967296+d0-p1*Y=x at*;clear Q;have FF:=ae (FIN.out S p1 v x HV.out HX.out M O)
        go_wp2_with fail
        go_ret2;exact⟨by rw[xy.out,<-FF.out.1,<-FF.out.2];rfl,bq _ _⟩
       ·go_wp2_with fail
        go_round
        case rel=>exact⟨p-1,t+y1,rfl,rfl,K.out,om⟩
        case measure=>simp[intOf];omega
      ·have RS:0<=p*y0:=vP E l;have RU:p*y0<=4294967295*4294967295:=yI om om l om;by_cases R:4294967296*t+d0<p*y0
       ·have j:=Cg J.out m l mP.out G (.inr R);have K:=ae (Ch J.out m I j);have DZ:1<=p:=om;clear j;by_cases B:4294967296<=t+y1
        ·have z:=ae (Ci K.out m l F hd0 om B);obtain⟨M,O⟩:=wu (T:=v*4294967296+d0) (Y:=Y) (q:=(p-1)) (by rw[<-D.out];exact z.out) om;have P:Hid ((p-1)<4294967296):=ae (by have:=z.out;omega);have X:0<=(p-1):=by have:=z.out;omega
         generalize Z:(p-1)=p1 at*;have HX:Hid (p1*Y+(v*4294967296+d0-p1*Y)=v*4294967296+d0):=ae om;have Cj:IntKind.u64.wrap (IntKind.u64.wrap (IntKind.u64.wrap (v*4294967296)+d0)-IntKind.u64.wrap (p1*Y))=v*4294967296+d0-p1*Y:=by
          rw[cZ,cZ,cZ,cZ];omega
         have Ck:=P.out;generalize Q:v*4294967296+d0-p1*Y=x at*;clear Q;have FF:=ae (FIN.out S p1 v x HV.out HX.out M O)
         go_wp2_with fail
         go_ret2;exact⟨by rw[xy.out,<-FF.out.1,<-FF.out.2];rfl,bq _ _⟩
        ·go_wp2_with fail
         go_round
         case rel=>exact⟨p-1,t+y1,rfl,rfl,K.out,om⟩
         case measure=>simp[intOf];omega
       ·have z:=ae (Jb J.out m l om);obtain⟨M,O⟩:=wu (T:=v*4294967296+d0) (Y:=Y) (q:=p) (by rw[<-D.out];exact z.out) om;have P:Hid (p<4294967296):=ae (by have:=z.out;omega);have X:0<=p:=by have:=z.out;omega
        generalize Z:p=p1 at*;have HX:Hid (p1*Y+(v*4294967296+d0-p1*Y)=v*4294967296+d0):=ae om;have Cj:IntKind.u64.wrap (IntKind.u64.wrap (IntKind.u64.wrap (v*4294967296)+d0)-IntKind.u64.wrap (p1*Y))=v*4294967296+d0-p1*Y:=by
         rw[cZ,cZ,cZ,cZ];omega
        have Ck:=P.out;generalize Q:v*4294967296+d0-p1*Y=x at*;clear Q;have FF:=ae (FIN.out S p1 v x HV.out HX.out M O)
        go_wp2_with fail
        go_ret2;exact⟨by rw[xy.out,<-FF.out.1,<-FF.out.2];rfl,bq _ _⟩
    ·go_wp2_with fail
     go_round
     case rel=>exact⟨q-1,r+y1,rfl,rfl,HN.out,om⟩
     case measure=>simp[intOf];omega
   ·have RS:0<=q*y0:=vP E l;have RU:q*y0<=4294967295*4294967295:=yI om om l om;by_cases R:4294967296*r+d1<q*y0
    ·have j:=Cg HD.out m l HU.out Nh (.inr R);have HN:=ae (Ch HD.out m Zt j);have DZ:1<=q:=om;clear j;by_cases B:4294967296<=r+y1
     ·have HQ:=ae (Ci HN.out m l F hd1 om B);obtain⟨hv0,hv1⟩:=wu (T:=u*4294967296+d1) (Y:=Y) (q:=(q-1)) (by rw[<-D.out];exact HQ.out) om;have Jd:Hid ((q-1)<4294967296):=ae (by have:=HQ.out;omega);have Zu:0<=(q-1):=by have:=HQ.out;omega
      generalize Zv:(q-1)=S at*;have HV:Hid (S*Y+(u*4294967296+d1-S*Y)=u*4294967296+d1):=ae om;have Zw:IntKind.u64.wrap (IntKind.u64.wrap (IntKind.u64.wrap (u*4294967296)+d1)-IntKind.u64.wrap (S*Y))=u*4294967296+d1-S*Y:=by
       rw[cZ,cZ,cZ,cZ];omega
      have hq11:=Jd.out;generalize Je:u*4294967296+d1-S*Y=v at*;clear Je;obtain⟨g1,g2,g3⟩:=Nf (u:=v) (y1:=y1) hv0 om;have U:=Nc m Ng l F hv0 (by rw[D.out];exact hv1) hd0 G;have Zx:=Ja (y1:=y1) (y0:=y0) (u:=v) (d:=d0) m l (by rw[D.out];exact hv1) G;have xL:=U.high;have E:=U.q0;generalize hpe:v/y1=p at*;generalize hte:v-p*y1=t at*;have V:=ae U;clear U
      go_wp2_with fail
      go_loop [18,16] (fun a b=>∃p t:Int,a=.int .u64 p/\b=.int .u64 t/\y7 y1 y0 v d0 p t/\t<4294967296) (fun a _=>(intOf a).toNat)
      case atStart=>exact⟨p,t,rfl,rfl,V.out,om⟩
      case round=>
       clear hpe hte xL E V g1 g2 g3;obtain⟨p,t,rfl,rfl,C,Ri⟩:=hrel;have xL:=C.high;have E:=C.q0;have hr0:=C.r0;have I:0<=(v*4294967296+d0)/(y1*4294967296+y0):=yE om om;have mP:Hid (v<y1*4294967296+y0):=ae (by rw[D.out];exact hv1);have J:=ae C;clear C;by_cases hbig2:4294967296<=p
       ·have j:=Cg J.out m l mP.out G (.inl hbig2);have K:=ae (Ch J.out m I j);have DZ:1<=p:=om;clear j;by_cases B:4294967296<=t+y1
        ·have z:=ae (Ci K.out m l F hd0 om B);obtain⟨M,O⟩:=wu (T:=v*4294967296+d0) (Y:=Y) (q:=(p-1)) (by rw[<-D.out];exact z.out) om;have P:Hid ((p-1)<4294967296):=ae (by have:=z.out;omega);have X:0<=(p-1):=by have:=z.out;omega
         generalize Z:(p-1)=p1 at*;have HX:Hid (p1*Y+(v*4294967296+d0-p1*Y)=v*4294967296+d0):=ae om;have Cj:IntKind.u64.wrap (IntKind.u64.wrap (IntKind.u64.wrap (v*4294967296)+d0)-IntKind.u64.wrap (p1*Y))=v*4294967296+d0-p1*Y:=by
          rw[cZ,cZ,cZ,cZ];omega
         have Ck:=P.out;generalize Q:v*4294967296+d0-p1*Y=x at*;clear Q;have FF:=ae (FIN.out S p1 v x HV.out HX.out M O)
         go_wp2_with fail
         go_ret2;exact⟨by rw[xy.out,<-FF.out.1,<-FF.out.2];rfl,bq _ _⟩
        ·go_wp2_with fail
         go_round
         case rel=>exact⟨p-1,t+y1,rfl,rfl,K.out,om⟩
         case measure=>simp[intOf];omega
       ·have RS:0<=p*y0:=vP E l;have RU:p*y0<=4294967295*4294967295:=yI om om l om;by_cases R:4294967296*t+d0<p*y0
        ·have j:=Cg J.out m l mP.out G (.inr R);have K:=ae (Ch J.out m I j);have DZ:1<=p:=om;clear j;by_cases B:4294967296<=t+y1
         ·have z:=ae (Ci K.out m l F hd0 om B);obtain⟨M,O⟩:=wu (T:=v*4294967296+d0) (Y:=Y) (q:=(p-1)) (by rw[<-D.out];exact z.out) om;have P:Hid ((p-1)<4294967296):=ae (by have:=z.out;omega);have X:0<=(p-1):=by have:=z.out;omega
          generalize Z:(p-1)=p1 at*;have HX:Hid (p1*Y+(v*4294967296+d0-p1*Y)=v*4294967296+d0):=ae om;have Cj:IntKind.u64.wrap (IntKind.u64.wrap (IntKind.u64.wrap (v*4294967296)+d0)-IntKind.u64.wrap (p1*Y))=v*4294967296+d0-p1*Y:=by
           rw[cZ,cZ,cZ,cZ];omega
          have Ck:=P.out;generalize Q:v*4294967296+d0-p1*Y=x at*;clear Q;have FF:=ae (FIN.out S p1 v x HV.out HX.out M O)
          go_wp2_with fail
          go_ret2;exact⟨by rw[xy.out,<-FF.out.1,<-FF.out.2];rfl,bq _ _⟩
         ·go_wp2_with fail
          go_round
          case rel=>exact⟨p-1,t+y1,rfl,rfl,K.out,om⟩
          case measure=>simp[intOf];omega
        ·have z:=ae (Jb J.out m l om);obtain⟨M,O⟩:=wu (T:=v*4294967296+d0) (Y:=Y) (q:=p) (by rw[<-D.out];exact z.out) om;have P:Hid (p<4294967296):=ae (by have:=z.out;omega);have X:0<=p:=by have:=z.out;omega
         generalize Z:p=p1 at*;have HX:Hid (p1*Y+(v*4294967296+d0-p1*Y)=v*4294967296+d0):=ae om;have Cj:IntKind.u64.wrap (IntKind.u64.wrap (IntKind.u64.wrap (v*4294967296)+d0)-IntKind.u64.wrap (p1*Y))=v*4294967296+d0-p1*Y:=by
          rw[cZ,cZ,cZ,cZ];omega
         have Ck:=P.out;generalize Q:v*4294967296+d0-p1*Y=x at*;clear Q;have FF:=ae (FIN.out S p1 v x HV.out HX.out M O)
         go_wp2_with fail
         go_ret2;exact⟨by rw[xy.out,<-FF.out.1,<-FF.out.2];rfl,bq _ _⟩
     ·go_wp2_with fail
      go_round
      case rel=>exact⟨q-1,r+y1,rfl,rfl,HN.out,om⟩
      case measure=>simp[intOf];omega
    ·have HQ:=ae (Jb HD.out m l om);obtain⟨hv0,hv1⟩:=wu (T:=u*4294967296+d1) (Y:=Y) (q:=q) (by rw[<-D.out];exact HQ.out) om;have Jd:Hid (q<4294967296):=ae (by have:=HQ.out;omega);have Zu:0<=q:=by have:=HQ.out;omega
     generalize Zv:q=S at*;have HV:Hid (S*Y+(u*4294967296+d1-S*Y)=u*4294967296+d1):=ae om;have Zw:IntKind.u64.wrap (IntKind.u64.wrap (IntKind.u64.wrap (u*4294967296)+d1)-IntKind.u64.wrap (S*Y))=u*4294967296+d1-S*Y:=by
      rw[cZ,cZ,cZ,cZ];omega
     have hq11:=Jd.out;generalize Je:u*4294967296+d1-S*Y=v at*;clear Je;obtain⟨g1,g2,g3⟩:=Nf (u:=v) (y1:=y1) hv0 om;have U:=Nc m Ng l F hv0 (by rw[D.out];exact hv1) hd0 G;have Zx:=Ja (y1:=y1) (y0:=y0) (u:=v) (d:=d0) m l (by rw[D.out];exact hv1) G;have xL:=U.high;have E:=U.q0;generalize hpe:v/y1=p at*;generalize hte:v-p*y1=t at*;have V:=ae U;clear U
     go_wp2_with fail
     go_loop [18,16] (fun a b=>∃p t:Int,a=.int .u64 p/\b=.int .u64 t/\y7 y1 y0 v d0 p t/\t<4294967296) (fun a _=>(intOf a).toNat)
     case atStart=>exact⟨p,t,rfl,rfl,V.out,om⟩
     case round=>
      clear hpe hte xL E V g1 g2 g3;obtain⟨p,t,rfl,rfl,C,Ri⟩:=hrel;have xL:=C.high;have E:=C.q0;have hr0:=C.r0;have I:0<=(v*4294967296+d0)/(y1*4294967296+y0):=yE om om;have mP:Hid (v<y1*4294967296+y0):=ae (by rw[D.out];exact hv1);have J:=ae C;clear C;by_cases hbig2:4294967296<=p
      ·have j:=Cg J.out m l mP.out G (.inl hbig2);have K:=ae (Ch J.out m I j);have DZ:1<=p:=om;clear j;by_cases B:4294967296<=t+y1
       ·have z:=ae (Ci K.out m l F hd0 om B);obtain⟨M,O⟩:=wu (T:=v*4294967296+d0) (Y:=Y) (q:=(p-1)) (by rw[<-D.out];exact z.out) om;have P:Hid ((p-1)<4294967296):=ae (by have:=z.out;omega);have X:0<=(p-1):=by have:=z.out;omega
        generalize Z:(p-1)=p1 at*;have HX:Hid (p1*Y+(v*4294967296+d0-p1*Y)=v*4294967296+d0):=ae om;have Cj:IntKind.u64.wrap (IntKind.u64.wrap (IntKind.u64.wrap (v*4294967296)+d0)-IntKind.u64.wrap (p1*Y))=v*4294967296+d0-p1*Y:=by
         rw[cZ,cZ,cZ,cZ];omega
        have Ck:=P.out;generalize Q:v*4294967296+d0-p1*Y=x at*;clear Q;have FF:=ae (FIN.out S p1 v x HV.out HX.out M O)
        go_wp2_with fail
        go_ret2;exact⟨by rw[xy.out,<-FF.out.1,<-FF.out.2];rfl,bq _ _⟩
       ·go_wp2_with fail
        go_round
        case rel=>exact⟨p-1,t+y1,rfl,rfl,K.out,om⟩
        case measure=>simp[intOf];omega
      ·have RS:0<=p*y0:=vP E l;have RU:p*y0<=4294967295*4294967295:=yI om om l om;by_cases R:4294967296*t+d0<p*y0
       ·have j:=Cg J.out m l mP.out G (.inr R);have K:=ae (Ch J.out m I j);have DZ:1<=p:=om;clear j;by_cases B:4294967296<=t+y1
        ·have z:=ae (Ci K.out m l F hd0 om B);obtain⟨M,O⟩:=wu (T:=v*4294967296+d0) (Y:=Y) (q:=(p-1)) (by rw[<-D.out];exact z.out) om;have P:Hid ((p-1)<4294967296):=ae (by have:=z.out;omega);have X:0<=(p-1):=by have:=z.out;omega
         generalize Z:(p-1)=p1 at*;have HX:Hid (p1*Y+(v*4294967296+d0-p1*Y)=v*4294967296+d0):=ae om;have Cj:IntKind.u64.wrap (IntKind.u64.wrap (IntKind.u64.wrap (v*4294967296)+d0)-IntKind.u64.wrap (p1*Y))=v*4294967296+d0-p1*Y:=by
          rw[cZ,cZ,cZ,cZ];omega
         have Ck:=P.out;generalize Q:v*4294967296+d0-p1*Y=x at*;clear Q;have FF:=ae (FIN.out S p1 v x HV.out HX.out M O)
         go_wp2_with fail
         go_ret2;exact⟨by rw[xy.out,<-FF.out.1,<-FF.out.2];rfl,bq _ _⟩
        ·go_wp2_with fail
         go_round
         case rel=>exact⟨p-1,t+y1,rfl,rfl,K.out,om⟩
         case measure=>simp[intOf];omega
       ·have z:=ae (Jb J.out m l om);obtain⟨M,O⟩:=wu (T:=v*4294967296+d0) (Y:=Y) (q:=p) (by rw[<-D.out];exact z.out) om;have P:Hid (p<4294967296):=ae (by have:=z.out;omega);have X:0<=p:=by have:=z.out;omega
        generalize Z:p=p1 at*;have HX:Hid (p1*Y+(v*4294967296+d0-p1*Y)=v*4294967296+d0):=ae om;have Cj:IntKind.u64.wrap (IntKind.u64.wrap (IntKind.u64.wrap (v*4294967296)+d0)-IntKind.u64.wrap (p1*Y))=v*4294967296+d0-p1*Y:=by
         rw[cZ,cZ,cZ,cZ];omega
        have Ck:=P.out;generalize Q:v*4294967296+d0-p1*Y=x at*;clear Q;have FF:=ae (FIN.out S p1 v x HV.out HX.out M O)
        go_wp2_with fail
        go_ret2;exact⟨by rw[xy.out,<-FF.out.1,<-FF.out.2];rfl,bq _ _⟩
end
section
theorem ajZ(x y:Int)(w:World)(N:aR x)(O:aR y):
  Calls Tryz.prog 176 #[x,y] w fun e w'=>e=.returned (.int .i64 (fdiv x y))/\Below w.heap.size w w':=by
 by_cases m:y=0
 ·subst m;by_cases u:x=0
  ·subst u;go_enter Tryz.func176,Tryz.ntmps176
   go_wp2_with fail
   go_ret;exact⟨gT ah,bq _ _⟩
  ·have hb:(x==0)=false:=by simpa using u
   have z:Hid (fdiv x 0=uC (decide (x<0))):=ae (by simp[fdiv,u]);clear u;go_enter Tryz.func176,Tryz.ntmps176
   go_wp2_with fail
   refine(Fv _ w).mono ?_;rintro e w' ⟨rfl,rfl⟩
   go_wp2_with fail
   go_ret;exact⟨gT z.out.symm,bq _ _⟩
 ·have hb:(y==0)=false:=by simpa using m
  obtain⟨a0,Y⟩:=yM N;obtain⟨Z,b1⟩:=yM O;have b2:1<=pM y:=by unfold pM;split<;>omega
  have D:Hid (fdiv x y=nV (yL (pM x*4294967296) (pM y)) (uD x y)):=ae (by rw[fdiv,if_neg m]);have P:=ae (Mf x w N);have Q:=ae (Mf y w O);clear m;have G:Hid ((!decide (x<0)==decide (y<0))=uD x y):=ae rfl;generalize pM x=a at*;generalize pM y=b at*;have el:IntKind.u64.wrap (a*4294967296)=a*4294967296%18446744073709551616:=cZ _;have E:Hid (a/4294967296*18446744073709551616+a*4294967296%18446744073709551616=a*4294967296):=ae om;have U:0<=a*4294967296%18446744073709551616:=om;have l1:a*4294967296%18446744073709551616<=18446744073709551615:=om;have c0:0<=a/4294967296:=om;have c1:a/4294967296<=2147483648:=om;generalize hM:a*4294967296=M at*;generalize M%18446744073709551616=lo at*;generalize hH:a/4294967296=hi at*;have V:Hid (0<=M):=ae om;go_enter Tryz.func176,Tryz.ntmps176
  go_wp2_with fail
  refine P.out.mono ?_;rintro e w' ⟨rfl,rfl⟩
  go_wp2_with fail
  refine Q.out.mono ?_;rintro e w' ⟨rfl,rfl⟩;by_cases B:b<=hi
  ·have z:Hid (fdiv x y=uC (uD x y)):=ae (by
    have hs:=E.out;have:9223372036854775808<=M/b:=(Lm om).2 (by
     have:9223372036854775808*b<=9223372036854775808*hi:=EY B ah;omega)
    rw[D.out,nV,if_pos];unfold yL;split<;>omega)
   clear D E
   go_wp2_with fail
   rw[G.out];refine(Fv _ w).mono ?_;rintro e w' ⟨rfl,rfl⟩
   go_wp2_with fail
   go_ret;exact⟨gT z.out.symm,bq _ _⟩
  ·have I:hi<b:=om;have J:=ae (ajV hi lo b w c0 I om U l1);rw[E.out]at J;have K:Hid (yL M b=if b<2*(M%b)\/(2*(M%b)=b/\(M/b)%2=1)then M/b+1 else M/b):=ae rfl;have q0:0<=M/b:=yE V.out om;have X:M/b<=18446744073709551615:=by
    have:M/b<18446744073709551616:=Hq om (by
     have hs:=E.out;have:18446744073709551616*(hi+1)<=18446744073709551616*b:=EY om ah;omega)
    omega
   have r0:0<=M%b:=Lf _ om;have r1:M%b<b:=K6 _ om;clear B E;generalize M/b=q at*;generalize M%b=r at*;have R:=Xo q q0 X
   go_wp2_with fail
   refine J.out.mono ?_;rintro e L ⟨rfl,C⟩;clear J P Q;by_cases S:9223372036854775808<=q
   ·have z:Hid (fdiv x y=uC (uD x y)):=ae (by
     rw[D.out,nV,if_pos];rw[K.out];split<;>omega)
    go_wp2_with fail
    rw[G.out];refine(Fv _ L).mono ?_;rintro e w' ⟨rfl,rfl⟩
    go_wp2_with fail
    go_ret;exact⟨gT z.out.symm,C⟩
   ·by_cases j:b<2*r\/(2*r=b/\q%2=1)
    ·have z:Hid (fdiv x y=nV (q+1) (uD x y)):=ae (by rw[D.out,K.out,if_pos j]);rcases j with j|⟨j,l⟩
     focus
      have d1:decide (b-r<r)=true:=by simp;omega
     rotate_left
     focus
      have d1:decide (b-r<r)=false:=by simp;omega
      have T:(r==b-r)=true:=by simp;omega
      rw[l]at R;clear j l
     all_goals
      go_wp2_with fail
      rw[G.out];refine(Mg (q+1) _ L om om).mono ?_;rintro e w' ⟨rfl,rfl⟩
      go_wp2_with fail
      go_ret;exact⟨gT z.out.symm,C⟩
    ·have z:Hid (fdiv x y=nV q (uD x y)):=ae (by rw[D.out,K.out,if_neg j]);by_cases F:2*r=b
     focus
      have d1:decide (b-r<r)=false:=by simp;omega
      have T:(r==b-r)=true:=by simp;omega
      have l:q%2=0:=om;rw[l]at R;clear j l F
     rotate_left
     focus
      have d1:decide (b-r<r)=false:=by simp;omega
      have T:(r==b-r)=false:=by simp;omega
      clear j F
     all_goals
      go_wp2_with fail
      rw[G.out];refine(Mg q _ L om om).mono ?_;rintro e w' ⟨rfl,rfl⟩
      go_wp2_with fail
      go_ret;exact⟨gT z.out.symm,C⟩
end
section
variable{w:World}{A:Option Addr}{n m c:Nat}{zs xs:List Int}
def aj0(w:World)(zs xs:List Int)(n m:Nat)(e:Ending)(w':World):Prop:=
 ∃g b,e=.returned (.tuple #[.agg #[.slice (some ⟨g,0,none⟩) n n,.slice (some ⟨b,0,none⟩) m m],(0:Int)])/\w.heap.size<=g/\w.heap.size<=b/\Own w' g 3 zs/\Own w' b 65 xs/\ak w' w
theorem aj1[a:Sl w A n zs](e:n<=1000000){b:Int}(hr:aU zs=true)(hp:Hid (aV zs=(m:Int))):Calls Tryz.prog 62 #[.slice A n c,b] w (aj0 w zs (List.replicate m b) n m):=by
 obtain⟨a,rfl⟩:=a;exact(Xz A c zs b m w e a (ae hr) hp).mono fun _ _ ⟨g,j,l,r,u,o1,y,hb⟩=>⟨g,j,by rw[l,lF],r,u,o1,y,⟨hb⟩⟩
end
instance I6.fint{n:Int}:I6 (fint n):=⟨Xp n⟩
instance I6.uG{l:List Int}:I6 (uG l):=⟨Qq l⟩
instance I6.div{x y:Int}[a:I6 x][b:I6 y]:I6 (fdiv x y):=⟨Xl a.bd b.bd⟩
theorem dh.part{xs:List Int}(h:dh xs)(F W:Nat):dh ((xs.drop F).take W):=⟨fun z b=>h.bd z (jo (gU b))⟩
section
variable{w:World}{A B:Option Addr}{n m c d:Nat}{zs xs:List Int}
theorem aj2[a:Sl w A n xs][i:dh xs](b:n<=1000000):Calls Tryz.prog 211 #[.slice A n c] w (aM w (.int .i64 (uG xs))):=by
 obtain⟨a,rfl⟩:=a;exact BH (afv A c xs w b i.hid a)
theorem Zy{n:Int}:Calls Tryz.prog 26 #[n] w (aM w (.int .i64 (fint n))):=BH (Fw n w)
theorem Zz{x y:Int}[a:I6 x][b:I6 y]:Calls Tryz.prog 176 #[x,y] w (aM w (.int .i64 (fdiv x y))):=afw (ajZ x y w a.bd b.bd)
end
section
variable{w:World}{A B:Option Addr}{n m c d:Nat}{zs xs:List Int}
theorem ZA[Sl w A n zs](e:n<=1000000){b:Nat}(hb:Hid (IW zs=(b:Int))):Calls Tryz.prog 175 #[.slice A n c] w (aM w (.int .i64 b)):=ja (aiA e) (by rw[hb.out])
theorem aj3[a:Sl w A n zs][b:Sl w B m xs][i6:dh xs][ld:Le m d](hn:n<=1000000){j:Int}{R Z D W S:Nat}{V X:List Int}(hr:bH zs xs=true)(hk:j=1\/j=2)(y:Hid (PW zs V R Z D W S))(hX:Hid (X=uP (qG j W) xs Z D S W (R*D))):
  Calls Tryz.prog 161 #[j,.agg #[.slice A n c,.slice B m d],W,S] w (qE w V X 0):=by
 obtain⟨CB,CP,FB⟩:=iK;have hE:Hid (Ap j zs xs W S=0):=ae (by rw[Ap,if_neg om,if_pos hr,y.out.none]);have hV:Hid (BZ j zs xs W S=V):=ae (by rw[BZ,hE.out,if_pos rfl,y.out.pl]);have hVr:=y.out.YZ;have Q:V.length=zs.length:=by rw[y.out.v,jQ]
 obtain⟨M,hM⟩:=lh (R*D);have hVS:Hid (aV V=(M:Int)):=ae (by rw[y.out.MX,hM]);have N:xs.length=R*Z:=by have G:=((jI _ _).1 hr).2;rw[y.out.size]at G;omega
 have hM6:M<=65536:=by
  have:=EX R y.out.nZ;have:=y.out.small;omega
 have QJ:m<=65536:=by rw[b.len,N];exact y.out.small
 have hm1:0<m:=by rw[b.len,N];exact Lt y.out.R1 (aZ y.out.n1 y.out.nZ)
 have RV:=a.len;obtain⟨k,T⟩:=lh (zs.length-1);have U:k<zs.length:=by have:=y.out.len;omega
 have RX:Hid (zs[k]?=some (Z:Int)):=ae (by rw[<-T];exact y.out.at_);have RY:Hid (V[k]?=some (D:Int)):=ae (by rw[y.out.v,T,qX U]);have mk:IntKind.i64.wrap ((V.length:Int)-1)=(k:Int):=by rw[Q,show(zs.length:Int)-1=(k:Int)from by omega];exact BB _ (by omega)
 have hn1:=y.out.n1;have hn2:D<=1024:=aZ y.out.nZ y.out.Z2;have hW1:=y.out.W1;have RZ:k<V.length:=om;have Jf:V.length<=1000000:=by rw[Q,<-a.len];exact hn
 have rq:=ae N;have HM:=ae hM;have hmd:=ld.le;have hkn:k<n:=by rw[a.len];exact U
 obtain⟨bz,oz,z,rfl,obz,cz,hz⟩:=a.get hkn;obtain rfl:z=(Z:Int):=by have G:=hz.out;rw[RX.out]at G;injection G with G;exact G.symm
 obtain⟨bx,ox,x0,rfl,obx,-,-⟩:=b.get hm1;clear hz T N hM Q U RV;go_enter Tryz.func161,Tryz.ntmps161
 go_wp2_with (first|(go_at_call 173;(with_reducible refine(Y4 om hE hV).mono ?_);rintro e u ⟨A',c',rfl,sJ,lJ,fJ,_⟩))
 obtain⟨bs,os,zn,rfl,obs,cs,hzs⟩:=sJ.get RZ;obtain rfl:zn=(D:Int):=by have G:=hzs.out;rw[RY.out]at G;injection G with G;exact G.symm
 clear hzs;obtain⟨E,rfl⟩:=lg u
 go_wp2_with (first|(go_at_call 62;(with_reducible refine(aj1 om hVr hVS).mono ?_);rintro e u ⟨g,C,rfl,hg,I,oS,oX,DX⟩))
 obtain⟨w1,rfl⟩:=lg u;refine bZ aj (fun u7 _=>?_);refine ag 0 38 ?_;refine ag 1 39 ?_;refine ag 2 40 ?_;refine ag 3 41 ?_;refine ag 4 42 ?_;refine ag 5 43 ?_;refine ag 6 44 ?_;refine ag 7 45 ?_;refine ag 8 46 ?_;refine ag 9 47 ?_;refine ag 10 48 ?_;refine ag 11 49 ?_;refine ag 12 50 ?_;refine ag 13 13 ?_;refine ag 14 14 ?_;refine aO ?_
 go_wp2_with fail
 have n1:w1.heap.size≠C:=by have:=oX.lt;omega
 have n2:g≠C:=oS.bP (cs:=ints (List.replicate M 0)) oX ah;have ZB:=fun k=>MU (qG j W) xs Z D S W k;have wB:=fun k=>aiz (qG j W) xs Z D S W k;clear CP;have CP:=@kQ;go_loopw [54] (fun i wr=>∃k:Nat,k<=M/\i=.int .i64 k/\Own wr C 65 (upTo (uP (qG j W) xs Z D S W) (List.replicate M 0) k)/\Own wr g 3 V/\Bx wr w1.heap.size 28 #[.slice g V.length V.length,.slice C M M]/\ak wr E) (fun i _=>M-(intOf i).toNat)
 case atStart=>exact⟨0,aS _,rfl,by simpa[upTo,uP]using oX.at,oS.at,iin,ai _ _⟩
 case round=>
  obtain⟨i,hi,rfl,hO,hS,hB,hp⟩:=hrel;by_cases O:i<M
  ·obtain⟨F,hF⟩:∃F,Hid (i/D*Z+i%D*S=F):=⟨_,ae rfl⟩;have Y:F+W<=m:=by
    have:=(y.out.win (i:=i) (by rw[HM.out];exact O)).2.2.2;rw[hF.out,<-rq.out,<-b.len]at this;exact this
   have hat:(upTo (uP (qG j W) xs Z D S W) (List.replicate M 0) i)[i]?=some 0:=FX (ZB i) (by simp[O]);obtain⟨L,HL⟩:∃L,Hid ((xs.drop F).take W=L):=⟨_,ae rfl⟩;have P:=ae (FY (f:=uP (qG j W) xs Z D S W) (ys:=List.replicate M 0) (k:=i) (z:=qG j W L) (ZB i) (by rw[wB,hF.out,HL.out]) (by simp[O]:(List.replicate M (0:Int))[i]?=some 0));have sP:Sl w (some ⟨bx,ox+F,none⟩) W L:=by rw[<-HL.out];exact b.part Y
   have iL:dh L:=by rw[<-HL.out];exact i6.part F W
   have y8:L.length=W:=sP.len.symm;have xA:W<=1000000:=om;rcases hk with rfl|rfl
   ·obtain⟨bb,hb,hbl,Nj⟩:=YW (l:=L) (by rintro rfl;simp at y8;omega);have HB:=ae hb;have cbb:w.cell? ⟨bx,ox+F+bb,none⟩=some (.int .i64 (Ao L)):=sP.rd.all Nj;have hbW:bb<W:=om;have J:qG 1 W L=Ao L:=by simp[qG]
    rw[J]at P;clear hb hbl Nj y8 J
    go_wp2_with (first|(go_at_call 174;(with_reducible refine(M5 om om hF om om om hW1 Y).mono ?_);rintro e u ⟨rfl,_⟩))
    refine j6 E (fun w9=>Bx w9 w1.heap.size 28 #[.slice g V.length V.length,.slice C M M]) aj iin (fun r _=>?_);refine bA 0 67 ?_;refine bA 1 68 ?_;refine bA 2 69 ?_;refine bA 3 70 ?_;refine bA 4 71 ?_;refine ay 5 fun K hK=>?_;go_simp
    (with_reducible refine(ZA om HB).mono ?_)
    rintro e r ⟨rfl,_⟩;dsimp only;refine av hK ?_ ⟨ai E _,iin⟩;clear hK K;refine bA 6 73 ?_;refine bA 7 74 ?_;refine bA 8 75 ?_;refine ay 9 fun K hK=>?_;have hcg:=((hO).at (w':=r)).cell hat;have hfg:=((hO).at (w':=r)).frozen i;go_simp;refine av hK ?_ ⟨⟨(aL E r).setCell (p:=⟨C,i,none⟩) I _⟩,⟨(Bx.blk (w:=r)).far n1 _⟩⟩;clear hK K hcg hfg;refine aO ?_
    go_wp2_with fail
    go_roundw
    case rel=>
     have o2:=(hO.at (w':=r)).aF i (Ao L);rw[P.out]at o2;exact⟨i+1,om,by go_num,o2,(hS.at (w':=r)).far n2 _,⟨(Bx.blk (w:=r)).far n1 _⟩,⟨(aL E r).setCell (p:=⟨C,i,none⟩) I _⟩⟩
    case measure=>simp[intOf];omega
   ·have J:qG 2 W L=fdiv (uG L) (fint W):=by simp[qG]
    rw[J]at P;clear y8 J
    go_wp2_with (first|(go_at_call 174;(with_reducible refine(M5 om om hF om om om hW1 Y).mono ?_);rintro e u ⟨rfl,_⟩))
    refine j6 E (fun w9=>Bx w9 w1.heap.size 28 #[.slice g V.length V.length,.slice C M M]) aj iin (fun r _=>?_);refine bA 0 76 ?_;refine bA 1 77 ?_;refine bA 2 78 ?_;refine bA 3 79 ?_;refine bA 5 81 ?_;refine ay 4 fun K hK=>?_;go_simp
    (with_reducible refine(aj2 om).mono ?_)
    rintro e r ⟨rfl,_⟩;dsimp only;refine av hK ?_ ⟨ai E _,iin⟩;clear hK K;refine ay 6 fun K hK=>?_;go_simp
    (with_reducible refine(Zy).mono ?_)
    rintro e r ⟨rfl,_⟩;dsimp only;refine av hK ?_ ⟨ai E _,iin⟩;clear hK K;refine ay 7 fun K hK=>?_;go_simp
    (with_reducible refine(Zz).mono ?_)
    rintro e r ⟨rfl,_⟩;dsimp only;refine av hK ?_ ⟨ai E _,iin⟩;clear hK K;refine bA 8 84 ?_;refine ay 9 fun K hK=>?_;have hcg:=((hO).at (w':=r)).cell hat;have hfg:=((hO).at (w':=r)).frozen i;go_simp;refine av hK ?_ ⟨⟨(aL E r).setCell (p:=⟨C,i,none⟩) I _⟩,⟨(Bx.blk (w:=r)).far n1 _⟩⟩;clear hK K hcg hfg;refine aO ?_
    go_wp2_with fail
    go_roundw
    case rel=>
     have o2:=(hO.at (w':=r)).aF i (fdiv (uG L) (fint W));rw[P.out]at o2;exact⟨i+1,om,by go_num,o2,(hS.at (w':=r)).far n2 _,⟨(Bx.blk (w:=r)).far n1 _⟩,⟨(aL E r).setCell (p:=⟨C,i,none⟩) I _⟩⟩
    case measure=>simp[intOf];omega
  ·rw[I5 (by simpa using O)]at hO;obtain rfl:i=M:=om;have HO:=ae hO;clear hO;have kR:Bx wr (w.heap.size+1) 28 #[.slice none 0 0,.slice none 0 0]:=iin;have l1:=hS.bP kR.blk ah;have l2:=HO.out.bP kR.blk ah
   go_wp2_with fail
   have k3:=kR.blk.set2 (.slice g V.length V.length) (.slice C i i);have B3:=gW (aL w wr) (p:=w.heap.size+1) om (.slice g V.length V.length) (.slice C i i);have o3:=hS.dY l1 (.slice g V.length V.length) (.slice C i i);have o4:=HO.out.dY l2 (.slice g V.length V.length) (.slice C i i);obtain⟨r0,r1⟩:=fC k3;refine bM (v:=.tuple #[.agg #[.slice g V.length V.length,.slice C i i],(0:Int)]) (by simp[results,Tryz.results161,go_sem,r0,r1]) rfl ?_;have hgw:w.heap.size<=g:=aZ (aH (w:=w) (w':=E)) hg;have R5:w.heap.size<=C:=aZ (aH (w:=w) (w':=E)) I;rw[hX.out,HM.out];exact⟨_,_,_,_,by rw[MU],⟨o3.rd,rfl⟩,⟨o4.rd,rfl⟩,⟨az _⟩,⟨by rw[MU];exact az _⟩,⟨fun ad e=>by injection e with e;subst e;exact hgw⟩,⟨fun ad e=>by injection e with e;subst e;exact R5⟩,⟨B3⟩⟩
end
theorem Nk{b:Int}{xs gs:List Int}{Z n S W:Nat}:∀(i q:Nat),aR (ji b xs gs Z n S W i q)
 |0,_=>by unfold ji aR;omega
 |i+1,q=>by
  unfold ji
  split
  ·exact BG _ _
  ·exact Nk i q
instance I6.ji{b:Int}{xs gs:List Int}{Z n S W i q:Nat}:I6 (ji b xs gs Z n S W i q):=⟨Nk i q⟩
section
variable{kind:Int}{xs gs:List Int}{Z n S W i F N:Nat}
theorem aka{b:Nat}{y:Int}(hF:i/n*Z+i%n*S=F)(hb:IW ((xs.drop F).take W)=(b:Int))(e:gs[i]?=some y):
  (tab N (ji 1 xs gs Z n S W i)).set (F+b) (dQ (ji 1 xs gs Z n S W i (F+b)) y)=tab N (ji 1 xs gs Z n S W (i+1)):=by
 rw[Y0];refine IY fun q _=>?_;rw[ji,hF,Rq,if_pos rfl,hb,dD,Rs,if_pos rfl,aQ,e];by_cases h:q=F+b
 ·subst h;simp
 ·simp[h]
def xM(xs gs:List Int)(Z n S W i F:Nat)(y:Int)(j q:Nat):Int:=if F<=q/\q<F+j then dQ (ji 2 xs gs Z n S W i q) y else ji 2 xs gs Z n S W i q
theorem akb{y:Int}:tab N (xM xs gs Z n S W i F y 0)=tab N (ji 2 xs gs Z n S W i):=IY fun q _=>by rw[xM,if_neg om]
theorem akc{y:Int}{j:Nat}:xM xs gs Z n S W i F y j (F+j)=ji 2 xs gs Z n S W i (F+j):=by rw[xM,if_neg om]
theorem akd{y:Int}{j:Nat}:(tab N (xM xs gs Z n S W i F y j)).set (F+j) (dQ (ji 2 xs gs Z n S W i (F+j)) y)=tab N (xM xs gs Z n S W i F y (j+1)):=by
 rw[Y0];refine IY fun q _=>?_;unfold xM;by_cases h:q=F+j
 ·subst h;rw[if_pos rfl,if_pos om]
 ·rw[if_neg h];by_cases b:F<=q/\q<F+j
  ·rw[if_pos b,if_pos om]
  ·rw[if_neg b,if_neg om]
theorem ake{y z:Int}(hF:i/n*Z+i%n*S=F)(e:gs[i]?=some z)(j:fdiv z (fint W)=y):tab N (xM xs gs Z n S W i F y W)=tab N (ji 2 xs gs Z n S W (i+1)):=
 IY fun q _=>by
  have b:¬(2:Int)=1:=by decide
  rw[xM,ji,hF];unfold Rq Rs;rw[if_neg b,if_neg b,aQ,e,E9,j];by_cases h:F<=q/\q<F+W
  ·rw[if_pos h,if_pos (by simpa using h)]
  ·rw[if_neg h,if_neg (by simpa using h)]
end
section
variable{w:World}{A B C D:Option Addr}{n m c d n' m' c' d':Nat}{zs xs ts ys:List Int}
theorem akf{V:List Int}[a:Sl w A n zs][b:Sl w B m xs][Sl w C n' V][b':Sl w D m' ys][dh ys][ld:Le m d](hn:n<=1000000)(hn':n'<=1000000){E:Int}{R Z J W S:Nat}{X:List Int}(hr:bH zs xs=true)(hk:E=1\/E=2)(I:Hid (PW zs V R Z J W S))(hr2:bH V ys=true)(hX:Hid (X=tab (R*Z) (ji E xs ys Z J S W (R*J)))):
  Calls Tryz.prog 109 #[E,.agg #[.slice A n c,.slice B m d],.agg #[.slice C n' c',.slice D m' d'],W,S] w (qE w zs X 0):=by
 obtain⟨CB,CP,FB⟩:=iK;have FP:=@Qn;have hE:Hid (Ap E zs xs W S=0):=ae (by rw[Ap,if_neg om,if_pos hr,I.out.none]);have hV:Hid (BZ E zs xs W S=V):=ae (by rw[BZ,hE.out,if_pos rfl,I.out.pl]);have ZC:V.length=zs.length:=by rw[I.out.v,jQ]
 obtain⟨M,hM⟩:=lh (R*J);obtain⟨N,hN⟩:=lh (R*Z);have hxl:xs.length=N:=by have K:=((jI _ _).1 hr).2;rw[I.out.size]at K;omega
 have hyl:ys.length=M:=by have K:=((jI _ _).1 hr2).2;rw[I.out.MX]at K;omega
 have hN6:N<=65536:=by rw[<-hN];exact I.out.small
 have hM6:M<=65536:=by
  have:=EX R I.out.nZ;omega
 have Nj:=b.len;have akg:=b'.len;have QJ:m<=65536:=om;have hN1:0<N:=by rw[<-hN];exact Lt I.out.R1 (aZ I.out.n1 I.out.nZ)
 have RV:=a.len;obtain⟨k,hk0⟩:=lh (zs.length-1);have hkz:k<zs.length:=by have:=I.out.len;omega
 have RX:Hid (zs[k]?=some (Z:Int)):=ae (by rw[<-hk0];exact I.out.at_);have RY:Hid (V[k]?=some (J:Int)):=ae (by rw[I.out.v,hk0,qX hkz]);have mk:IntKind.i64.wrap ((V.length:Int)-1)=(k:Int):=by rw[ZC,show(zs.length:Int)-1=(k:Int)from by omega];exact BB _ (by omega)
 have hn1:=I.out.n1;have hn2:J<=1024:=aZ I.out.nZ I.out.Z2;have hW1:=I.out.W1;have RZ:k<V.length:=om;have Jf:V.length<=1000000:=om;have HM:=ae hM;have HN:=ae hN;have hmd:=ld.le;have hkn:k<n:=om;obtain⟨bz,oz,z,rfl,obz,cz,hz⟩:=a.get hkn;obtain rfl:z=(Z:Int):=by have K:=hz.out;rw[RX.out]at K;injection K with K;exact K.symm
 obtain⟨bx,ox,x0,rfl,obx,-,-⟩:=b.get (k:=0) om;have hmN:m=N:=om;have hmM:m'=M:=om;subst hmN hmM;obtain⟨a,rfl⟩:=a;have a:Sl w (some ⟨bz,oz,none⟩) zs.length zs:=⟨a,rfl⟩;have rq:=ae hxl;have akj:0<xs.length:=om;clear hz hk0 hxl hM ZC hkz RV hN Nj akg hyl;go_enter Tryz.func109,Tryz.ntmps109
 go_upto_region 6 with(first|(go_at_call 173;(with_reducible refine(Y4 om hE hV).mono ?_);rintro e u ⟨A',c',rfl,sJ,lJ,fJ,_⟩)|(go_at_call 69;(with_reducible refine(tu om).mono ?_);rintro e u ⟨rfl,_⟩)|(go_at_call 70;(with_reducible refine(MW om om).mono ?_);rintro e u ⟨rfl,_⟩))
 obtain⟨Q,rfl⟩:=lg u;obtain⟨bs,os,zn,rfl,obs,cs,hzs⟩:=sJ.get RZ;obtain rfl:zn=(J:Int):=by have K:=hzs.out;rw[RY.out]at K;injection K with K;exact K.symm
 clear hzs hr hr2
 go_wp2_with fail
 refine(Ii om om).mono ?_;rintro e Y ⟨g,r,rfl,hg,T,oS,oX,DX⟩;have hcl:=fun ty=>WZ (P:=Tryz.prog) 26 65 ty Tryz.underlying26 aj (oX.alloc (.cells #[.slice g zs.length zs.length,.slice r xs.length xs.length] 28)) akj xs.length;have n1:g≠r:=oS.bP (cs:=ints xs) oX ah;have n2:Y.heap.size≠r:=by have:=oX.lt;omega
 have O:=LZ (bs:=[r]) (g:=r) au (List.replicate xs.length (.int .i64 0)) 0 (Off.refl [r] (Y.alloc (.cells #[.slice g zs.length zs.length,.slice r xs.length xs.length] 28)));have Ga:=(oX.alloc (.cells #[.slice g zs.length zs.length,.slice r xs.length xs.length] 28)).clear;have Jg:=O.own (oS.alloc (.cells #[.slice g zs.length zs.length,.slice r xs.length xs.length] 28)) (by simpa using n1);have U:=O.blk (aD.new Y 28 #[.slice g zs.length zs.length,.slice r xs.length xs.length]) (by simpa using n2);have pW:ak _ Q:=⟨Fq (n:=Q.heap.size) (g:=r) T (List.replicate xs.length (.int .i64 0)) 0 (aL Q (Y.alloc (.cells #[.slice g zs.length zs.length,.slice r xs.length xs.length] 28)))⟩;obtain⟨W0,hW0⟩:=lg ((Y.alloc (.cells #[.slice g zs.length zs.length,.slice r xs.length xs.length] 28)).setCells r 0 (List.replicate xs.length (.int .i64 0)));rw[<-hW0]at Ga Jg U pW;replace U:Bx W0 Y.heap.size 28 #[.slice g zs.length zs.length,.slice r xs.length xs.length]:=⟨U⟩
 go_wp2_with fail
 rw[<-hW0];clear hcl hW0 O oS oX DX;obtain⟨G,F8⟩:=lh xs.length;rw[F8]at Ga U;obtain rfl:G=m:=by rw[<-F8,rq.out]
 clear F8;refine bZ aj (fun u8 _=>?_);refine ag 0 49 ?_;refine ag 1 50 ?_;refine ag 2 51 ?_;refine ag 3 52 ?_;refine ag 4 53 ?_;refine ag 5 54 ?_;refine ag 6 55 ?_;refine ag 7 56 ?_;refine ag 8 57 ?_;refine ag 9 58 ?_;refine ag 10 59 ?_;refine ag 11 60 ?_;refine ag 12 61 ?_;refine ag 13 15 ?_;refine ag 14 16 ?_;refine aO ?_
 go_wp2_with fail
 go_loopw [65] (fun i wr=>∃k:Nat,k<=m'/\i=.int .i64 k/\Own wr r 65 (tab G (ji E xs ys Z J S W k))/\Own wr g 3 zs/\Bx wr Y.heap.size 28 #[.slice g zs.length zs.length,.slice r G G]/\ak wr Q) (fun i _=>m'-(intOf i).toNat)
 case atStart=>exact⟨0,aS _,rfl,by rw[show tab G (ji E xs ys Z J S W 0)=List.replicate G 0 from(IY fun q _=>by simp[ji]).trans aiC];exact Ga.at,Jg.at,iin,ai _ _⟩
 case round=>
  obtain⟨i,hi,rfl,hO,hS,hB,hp⟩:=hrel;by_cases hlt:i<m'
  ·obtain⟨by',oy,y,rfl,oby,cy,hy⟩:=b'.get hlt;obtain⟨F,hF⟩:∃F,Hid (i/J*Z+i%J*S=F):=⟨_,ae rfl⟩;have R7:F+W<=G:=by
    have:=(I.out.win (i:=i) (by rw[HM.out];exact hlt)).2.2.2;rw[hF.out,HN.out]at this;exact this
   obtain⟨L,HL⟩:∃L,Hid ((xs.drop F).take W=L):=⟨_,ae rfl⟩;have sP:Sl w (some ⟨bx,ox+F,none⟩) W L:=by rw[<-HL.out];exact b.part R7
   have iy:I6 y:=dh.at hy.out;have y8:L.length=W:=sP.len.symm;have xA:W<=1000000:=om;have og:Old r wr:=⟨hO.lt⟩;rcases hk with rfl|rfl
   ·obtain⟨bb,hb,hbl,-⟩:=YW (l:=L) (by rintro rfl;simp at y8;omega);have HB:=ae hb;have hbW:bb<W:=om;have hcg:=hO.cell (MZ (F:=ji 1 xs ys Z J S W i) (k:=F+bb) (show F+bb<G by omega));have hfg:=hO.frozen (F+bb);have HST:=ae (aka (N:=G) hF.out (by rw[HL.out];exact hb) hy.out);clear hb hbl y8
    go_wp2_with (first|(go_at_call 174;(with_reducible refine(M5 om om hF om om om hW1 R7).mono ?_);rintro e u ⟨rfl,_⟩)|(go_at_call 175;(with_reducible refine(ZA om HB).mono ?_);rintro e u ⟨rfl,_⟩)|(go_at_call 171;(with_reducible refine(Mh).mono ?_);rintro e u ⟨rfl,_⟩))
    go_roundw
    case rel=>
     have o2:=(hO.at (w':=u)).aF (F+bb) (dQ (ji 1 xs ys Z J S W i (F+bb)) y);rw[HST.out]at o2;exact⟨i+1,om,by go_num,o2,(hS.at (w':=u)).far n1 _,⟨(Bx.blk (w:=u)).far n2 _⟩,⟨(aL Q u).setCell (p:=⟨r,F+bb,none⟩) T _⟩⟩
    case measure=>simp[intOf];omega
   ·obtain⟨y2,hy2⟩:=lh (fdiv y (fint W));have Gb:=ae (ake (xs:=xs) (N:=G) hF.out hy.out hy2);have iy2:I6 y2:=hy2▸(iin:I6 (fdiv y (fint W)));clear y8
    go_wp2_with (first|(go_at_call 174;(with_reducible refine(M5 om om hF om om om hW1 R7).mono ?_);rintro e u ⟨rfl,_⟩)|(go_at_call 26;(with_reducible refine(Zy).mono ?_);rintro e u ⟨rfl,_⟩)|(go_at_call 176;(with_reducible refine(Zz).mono ?_);rintro e u ⟨rfl,_⟩))
    go_loopw [104] (fun j wq=>∃q:Nat,q<=W/\j=.int .i64 q/\Own wq r 65 (tab G (xM xs ys Z J S W i F y2 q))/\Own wq g 3 zs/\Bx wq Y.heap.size 28 #[.slice g zs.length zs.length,.slice r G G]/\ak wq Q) (fun j _=>W-(intOf j).toNat)
    case atStart=>exact⟨0,aS _,rfl,by rw[akb];exact hO.at,hS.at,iin,ai _ _⟩
    case round=>
     clear hO hS hB og;obtain⟨q,hq,rfl,hO,hS,hB,hp⟩:=hrel;by_cases atY:q<W
     ·have hcg:=hO.cell (MZ (F:=xM xs ys Z J S W i F y2 q) (k:=F+q) (show F+q<G by omega));rw[akc]at hcg;have hfg:=hO.frozen (F+q);have og:Old r wr:=⟨hO.lt⟩
      go_wp2_with (first|(go_at_call 171;(with_reducible refine(Mh).mono ?_);rintro e u ⟨rfl,_⟩))
      go_roundw
      case rel=>
       have o2:=(hO.at (w':=u)).aF (F+q) (dQ (ji 2 xs ys Z J S W i (F+q)) y2);rw[akd]at o2;exact⟨q+1,om,by go_num,o2,(hS.at (w':=u)).far n1 _,⟨(Bx.blk (w:=u)).far n2 _⟩,⟨(aL Q u).setCell (p:=⟨r,F+q,none⟩) T _⟩⟩
      case measure=>simp[intOf];omega
     ·obtain rfl:q=W:=om;rw[Gb.out]at hO
      go_wp2_with fail
      go_roundw
      case rel=>exact⟨i+1,om,by go_num,hO,hS,hB,hp⟩
      case measure=>simp[intOf];omega
  ·obtain rfl:i=m':=om;have HO:=ae hO;clear hO;have kR:Bx wr (w.heap.size+1+1) 28 #[.slice none 0 0,.slice none 0 0]:=iin;have l1:=hS.bP kR.blk ah;have l2:=HO.out.bP kR.blk ah
   go_wp2_with fail
   have k3:=kR.blk.set2 (.slice g zs.length zs.length) (.slice r G G);have B3:=gW (aL w wr) (p:=w.heap.size+1+1) om (.slice g zs.length zs.length) (.slice r G G);have o3:=hS.dY l1 (.slice g zs.length zs.length) (.slice r G G);have o4:=HO.out.dY l2 (.slice g zs.length zs.length) (.slice r G G);obtain⟨r0,r1⟩:=fC k3;refine bM (v:=.tuple #[.agg #[.slice g zs.length zs.length,.slice r G G],(0:Int)]) (by simp[results,Tryz.results109,go_sem,r0,r1]) rfl ?_;have hgw:w.heap.size<=g:=aZ (aH (w:=w) (w':=Q)) hg;have R5:w.heap.size<=r:=aZ (aH (w:=w) (w':=Q)) T;rw[hX.out,HM.out,HN.out];exact⟨_,_,_,_,by rw[DN],⟨o3.rd,rfl⟩,⟨o4.rd,rfl⟩,⟨az _⟩,⟨by rw[DN];exact az _⟩,⟨fun ad e=>by injection e with e;subst e;exact hgw⟩,⟨fun ad e=>by injection e with e;subst e;exact R5⟩,⟨B3⟩⟩
end
end Go.Proofs.YtmkjnlifimffkaaGreat
