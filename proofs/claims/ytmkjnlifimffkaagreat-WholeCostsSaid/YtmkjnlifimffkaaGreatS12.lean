/- Lemmas. No condition. -/
import Derived.Test.YtmkjnlifimffkaaGreatS03
import Derived.Lib.MinMax
import Derived.StillTailTactics
namespace Go.Proofs.YtmkjnlifimffkaaGreat
open Go.RowKit
set_option linter.all false
set_option maxRecDepth 100000
set_option maxHeartbeats 16000000
theorem DL{P:Program}{t:TypeId}(hs:(P.info? (P.elem t)).map (·.size)=some 1)(w:World):(sizeOf (P.elem t)).run P w=.ok 1 w:=by
 obtain⟨i,hi,e⟩:=bN.1 hs;simp[sizeOf,typeInfo,hi,e]
section
variable{P:Program}(t:TypeId)(ht:P.underlying t=some (.slice (P.elem t)))(hs:(P.info? (P.elem t)).map (·.size)=some 1)
include ht hs
theorem ahZ(A:Option Addr)(l c k:Nat)(i:Int)(hi:i=(k:Int))(B:k<=l)(u:l<=c):
  ∃A',(∀w,(Instr.slice t (.slice A l c) (some (.int .i64 i)) none none).run P w=.ok (.slice A' (l-k) (c-k)) w)/\(∀w zs,zs.length=l->Rd w A zs->Rd w A' (zs.drop k)):=by
 subst hi;refine⟨if c=k then A else A.map (·.add k),fun w=>?_,fun w zs C h j z e=>?_⟩
 ·rw[j4 w t A l c ht .i64 k om om,DL hs];simp[Result.andThen,sliced]
 ·rw[lD]at e;obtain⟨b,off,rfl,hb,m⟩:=h _ z e;have y:=(aY.1 e).1;rw[if_neg om];by_cases r:k=0
  ·subst r;exact⟨b,off,by simp[Addr.add],hb,by simpa using m⟩
  ·exact⟨b,off+k,by simp[Addr.add,r],hb,by rw[C8];exact m⟩
end
structure bn(B:Nat)(A:Option Addr):Prop where
 out:∀ad,A=some ad->B<=ad.block
section
variable{w w':World}{A:Option Addr}{n c b b':Nat}{zs xs:List Int}{E:Int}
theorem bn.none:bn b none:=⟨fun _ h=>by cases h⟩
theorem bn.less(h:bn b A)(hb:b'<=b):bn b' A:=⟨fun ad e=>aZ hb (h.out ad e)⟩
theorem aG.YF{T:TypeId}(h:aG w b T A c zs):bn b A:=⟨h.fresh⟩
theorem Sl.setCell{p:Addr}(h:Sl w A n zs)(f:bn b A)(hp:p.block<b)(v:Value):Sl (w.setCell p v) A n zs:=
 ⟨fun j z l=>by
  obtain⟨k,off,e,hb,m⟩:=h.rd j z l;refine⟨k,off,e,by simpa using hb,?_⟩;rw[<-m];have:=f.out _ e;exact jG (dM w p v k (by simp only at this;omega)),h.len⟩
theorem Sl.dY{p:Nat}(h:Sl w A n zs)(f:bn b A)(hp:p<b)(v0 v1:Value):Sl ((w.setCell ⟨p,0,none⟩ v0).setCell ⟨p,1,none⟩ v1) A n zs:=
 (h.setCell (p:=⟨p,0,none⟩) f hp v0).setCell (p:=⟨p,1,none⟩) f hp v1
def qE(w:World)(zs xs:List Int)(E:Int)(e:Ending)(w':World):Prop:=
 ∃A c B d,e=.returned (.tuple #[.agg #[.slice A zs.length c,.slice B xs.length d],E])/\Sl w' A zs.length zs/\Sl w' B xs.length xs/\Le zs.length c/\Le xs.length d/\bn w.heap.size A/\bn w.heap.size B/\ak w' w
theorem Re{P:Program}{f:Nat}{args:Array Value}(h:Calls P f args w (zX w zs xs E)):Calls P f args w (qE w zs xs E):=
 h.mono fun _ _ ⟨A,c,B,d,l,e,j,hb⟩=>⟨A,c,B,d,l,⟨e.rd,rfl⟩,⟨j.rd,rfl⟩,⟨e.uB⟩,⟨j.uB⟩,⟨e.fresh⟩,⟨j.fresh⟩,⟨hb⟩⟩
def uO(w:World)(zs:List Int)(E:Int)(e:Ending)(w':World):Prop:=
 ∃A c,e=.returned (.tuple #[.slice A zs.length c,E])/\Sl w' A zs.length zs/\Le zs.length c/\bn w.heap.size A/\ak w' w
theorem YG{P:Program}{f:Nat}{args:Array Value}(h:Calls P f args w (nU w zs E)):Calls P f args w (uO w zs E):=
 h.mono fun _ _ ⟨A,c,e,j,hb,l,m⟩=>⟨A,c,e,⟨j,rfl⟩,⟨m⟩,⟨l⟩,⟨hb⟩⟩
def ah0(w:World)(zs:List Int)(e:Ending)(w':World):Prop:=
 ∃g,e=.returned (.slice (some ⟨g,0,none⟩) zs.length zs.length)/\Sl w' (some ⟨g,0,none⟩) zs.length zs/\bn w.heap.size (some ⟨g,0,none⟩)/\ak w' w
theorem IJ[a:Sl w A n zs](j:n<=1000000):Calls Tryz.prog 103 #[.slice A n c] w (ah0 w zs):=by
 obtain⟨a,rfl⟩:=a;exact(Fs A c zs w j a).mono fun _ _ ⟨g,l,hg,m,hb⟩=>⟨g,l,⟨m.rd,rfl⟩,⟨fun ad e=>by injection e with e;subst e;exact hg⟩,⟨hb⟩⟩
end
section
theorem YH{P:Program}{f:FuncId}{args:Array Value}{w:World}{n:Nat}{v:Value}
  (h:Calls P f args (w.drewN n) fun e w'=>e=.returned v/\w.drewN n=w'):Calls P f args (w.drewN n) fun e b=>e=.returned v/\∃m,b=w.drewN m:=
 h.mono fun _ _ ⟨j,hm⟩=>⟨j,n,hm.symm⟩
theorem YI{P:Program}{f:FuncId}{args:Array Value}{w:World}{a n:Nat}{v:Value}
  (h:Calls P f args (w.drewN (a+n)) fun e w'=>e=.returned v/\w.drewN (a+n)=w'):Calls P f args (w.drewN (a+n)) fun e b=>e=.returned v/\∃m,b=w.drewN (a+m):=
 h.mono fun _ _ ⟨j,hm⟩=>⟨j,n,hm.symm⟩
def Al(l:List (Int×Int)):Int:=l.foldl (fun s p=>dQ s (dI p.1 p.2)) 0
theorem YJ(l:List (Int×Int))(x y:Int):Al (l++[(x,y)])=dQ (Al l) (dI x y):=by simp[Al]
theorem Rf(l:List (Int×Int)):aR (Al l):=by
 rcases List.eq_nil_or_concat l with rfl|⟨m,x,rfl⟩
 ·exact⟨ah,ah⟩
 ·rw[List.concat_eq_append,YJ];exact BG _ _
def YK(w:World)(n:Int)(e:Ending)(w':World):Prop:=e=.returned (.int .i64 n)/\∃m,w'=w.drewN m
theorem ah1(A B:Option Addr)(c d:Nat)(xs ys:List Int)(w:World)(hs:xs.length<=1000000)(_hs':ys.length<=1000000)(E:Hid (∀z∈xs,aR z))(F:Hid (∀z∈ys,aR z))(h:Rd w A xs)(G:Rd w B ys):
  Calls Tryz.prog 210 #[.slice A xs.length c,.slice B ys.length d] w (YK w (Al (xs.zip ys))):=by
 obtain⟨N,hN⟩:∃N:Nat,Hid (min xs.length ys.length=N):=⟨_,ae rfl⟩;have P:min (xs.length:Int) (ys.length:Int)=(N:Int):=by have:=hN.out;omega
 have I:N<=xs.length:=by have:=hN.out;omega
 have J:N<=ys.length:=by have:=hN.out;omega
 have K:Hid ((xs.zip ys).length=N):=ae (by rw[List.length_zip];exact hN.out);go_enter Tryz.func210,Tryz.ntmps210
 go_wp2_with fail
 go_loopw [5,12] (fun s i wr=>∃k m:Nat,k<=N/\i=.int .i64 k/\s=.int .i64 (Al ((xs.zip ys).take k))/\wr=w.drewN m) (fun _ i _=>N-(intOf i).toNat)
 case atStart=>exact⟨0,0,aS _,rfl,rfl,rfl⟩
 case round=>
  obtain⟨k,m,Q,rfl,rfl,rfl⟩:=hrel;by_cases L:k<N
  ·obtain⟨b,off,x,rfl,hb,R,r⟩:=h.get (k:=k) om;obtain⟨b',D,y,rfl,M,O,u⟩:=G.get (k:=k) om;have j:=E.out x (aK r.out);have l:=F.out y (aK u.out);have C:Hid ((xs.zip ys)[k]?=some (x,y)):=ae (by rw[aeD];exact⟨r.out,u.out⟩);have l1:k<xs.length:=om;have S:k<ys.length:=om
   go_wp2_with fail
   go_big_quiet ((first|(go_at_call 170;exact YH (Ig x y _ j l))|(go_at_call 170;exact YI (Ig x y _ j l))|(go_at_call 171;exact YH (Dp _ _ _ (Rf _) (xm j l)))|(go_at_call 171;exact YI (Dp _ _ _ (Rf _) (xm j l)))))
   go_wp2_with fail
   go_roundw
   case rel=>exact⟨k+1,_,om,by go_num,by rw[take_at C.out,YJ],rfl⟩
   case measure=>simp[intOf];omega
  ·have e:Hid ((xs.zip ys).take k=xs.zip ys):=ae (dB (by rw[K.out];omega))
   go_wp2_with fail
   go_ret;exact⟨gT (by rw[e.out]),_,rfl⟩
end
section
theorem Rh{P:Program}{f:FuncId}{args:Array Value}{w:World}{v:Value}(h:Calls P f args w fun e w'=>e=.returned v/\w=w'):Calls P f args w fun e w'=>e=.returned v/\w'=w:=
 h.mono fun _ _ ⟨b,j⟩=>⟨b,j.symm⟩
def nE(zs xs ts ys:List Int):Bool:=bH zs xs&&bH ts ys&&decide (zs=ts)
theorem ah2(A B C D:Option Addr)(c d c' d':Nat)(zs xs ts ys:List Int)(w:World)(E:zs.length<=1000000)(ht:ts.length<=1000000)
  (F:Rd w A zs) (G:Rd w C ts):
  Calls Tryz.prog 183 #[.agg #[.slice A zs.length c,.slice B xs.length d],.agg #[.slice C ts.length c',.slice D ys.length d']] w (xk w (.bool (nE zs xs ts ys))):=by
 have l:=((bq w.heap.size w).alloc (az _) (.cells #[.slice A zs.length c,.slice B xs.length d] 28)).alloc au (.cells #[.slice C ts.length c',.slice D ys.length d'] 28);have k0:=(aD.new w 28 #[.slice A zs.length c,.slice B xs.length d]).alloc (.cells #[.slice C ts.length c',.slice D ys.length d'] 28);have m:=aD.new' (w.alloc (.cells #[.slice A zs.length c,.slice B xs.length d] 28)) 28 #[.slice C ts.length c',.slice D ys.length d'] (n:=w.heap.size+1) au;rcases hr:bH zs xs with _|_
 ·have r:=ae hr;have u:Hid (nE zs xs ts ys=false):=ae (by simp[nE,hr]);clear hr;go_enter Tryz.func183,Tryz.ntmps183
  go_wp2_with fail
  refine(vU A B c d zs xs _ E (F.below l)).mono ?_;rintro e K ⟨rfl,hb⟩;rw[r.out]
  go_wp2_with fail
  go_ret;exact⟨jD u.out.symm,dS l hb⟩
 rcases hr':bH ts ys with _|_
 ·have r:=ae hr;have j:=ae hr';have u:Hid (nE zs xs ts ys=false):=ae (by simp[nE,hr']);clear hr hr';go_enter Tryz.func183,Tryz.ntmps183
  go_wp2_with fail
  refine(vU A B c d zs xs _ E (F.below l)).mono ?_;rintro e K ⟨rfl,hb⟩;rw[r.out];have y:=dS l hb;obtain⟨q0,I⟩:=fC (m.keep hb)
  go_wp2_with fail
  refine(vU C D c' d' ts ys _ ht (G.below y)).mono ?_;rintro e L ⟨rfl,b⟩;rw[j.out]
  go_wp2_with fail
  go_ret;exact⟨jD u.out.symm,dS y b⟩
 ·have r:=ae hr;have j:=ae hr';have u:Hid (nE zs xs ts ys=decide (zs=ts)):=ae (by simp[nE,hr,hr']);clear hr hr';go_enter Tryz.func183,Tryz.ntmps183
  go_wp2_with fail
  refine(vU A B c d zs xs _ E (F.below l)).mono ?_;rintro e K ⟨rfl,hb⟩;rw[r.out];have y:=dS l hb;have k1:=k0.keep hb;have z:=m.keep hb;obtain⟨q0,I⟩:=fC z
  go_wp2_with fail
  refine(vU C D c' d' ts ys _ ht (G.below y)).mono ?_;rintro e L ⟨rfl,b⟩;rw[j.out];have J:=dS y b;clear q0 I;obtain⟨M,p1⟩:=fC (k1.keep b);obtain⟨q0,I⟩:=fC (z.keep b)
  go_wp2_with fail
  refine(Ql A C c c' zs ts _ E ht (F.below J) (G.below J)).mono ?_;rintro e N ⟨rfl,n,rfl⟩
  go_wp2_with fail
  go_ret;exact⟨jD u.out.symm,below_drewN J n⟩
def xB(xs ys:List Int)(k:Nat):List Int:=(xs.take k).zipWith dQ (ys.take k)++xs.drop k
theorem ah3{xs ys:List Int}{k:Nat}{x:Int}(e:xs.length=ys.length)(b:xs[k]?=some x):(xB xs ys k)[k]?=some x:=by
 obtain⟨j,_⟩:=aY.1 b;rw[xB,lC bD];simp only[PG,dO,lD];rw[show k+(k-min (min k xs.length) (min k ys.length))=k from om];exact b
theorem ah4{xs ys:List Int}{k:Nat}{x y:Int}(l:xs.length=ys.length)(b:xs[k]?=some x)(e:ys[k]?=some y):(xB xs ys k).set k (dQ x y)=xB xs ys (k+1):=by
 obtain⟨m,_⟩:=aY.1 b;have j:((xs.take k).zipWith dQ (ys.take k)).length=k:=by simp;omega
 rw[xB,yA _ _ om,j,l9,drop_at b,yC,xB,take_at b,take_at e,List.zipWith_append bD];simp
theorem ah5{xs ys:List Int}{k:Nat}(b:xs.length=ys.length)(e:¬k<xs.length):xB xs ys k=xs.zipWith dQ ys:=by
 rw[xB,dB om,dB om,kL om,oV]
theorem ah6{zs xs ts ys:List Int}(h:nE zs xs ts ys=true):zs=ts/\xs.length=ys.length/\bH zs xs=true/\bH ts ys=true/\xs.length<=65536/\zs.length<=4:=by
 simp only[nE,dm,dU]at h;obtain⟨⟨b,e⟩,l⟩:=h;have j:=(jI _ _).1 b;have r:=(jI _ _).1 e;subst l;obtain⟨n,u,_,m⟩:=pQ j.1;exact⟨rfl,om,b,e,om,((j5 zs).1 j.1).2.1⟩
theorem ah7(A B C D:Option Addr)(c d c' d':Nat)(zs xs ts ys:List Int)(w:World)
  (X:Rd w A zs) (h2:Rd w B xs) (h3:Rd w C ts) (h4:Rd w D ys) (hx:Hid (∀z∈xs,aR z)) (hy:Hid (∀z∈ys,aR z)) (hr:Hid (nE zs xs ts ys=true)):
  Calls Tryz.prog 115 #[.agg #[.slice A zs.length c,.slice B xs.length d],.agg #[.slice C ts.length c',.slice D ys.length d']] w (zX w zs (xs.zipWith dQ ys) 0):=by
 obtain⟨L,Y,_,_,hx6,R⟩:=ah6 hr.out;have K:=ae Y;have Ri:ts.length<=4:=by rw[<-L];exact R
 clear Y L;have S:=(((bq w.heap.size w).alloc (az _) (.cells #[.slice A zs.length c,.slice B xs.length d] 28)).alloc au (.cells #[.slice C ts.length c',.slice D ys.length d'] 28)).alloc bD (.cells #[.slice none 0 0,.slice none 0 0] 28);have k0:=aD.new' ((w.alloc (.cells #[.slice A zs.length c,.slice B xs.length d] 28)).alloc (.cells #[.slice C ts.length c',.slice D ys.length d'] 28)) 28 #[.slice none 0 0,.slice none 0 0] (n:=w.heap.size+1+1) au;have Z:=((aD.new w 28 #[.slice A zs.length c,.slice B xs.length d]).alloc (.cells #[.slice C ts.length c',.slice D ys.length d'] 28)).alloc (.cells #[.slice none 0 0,.slice none 0 0] 28);have n0:=(aD.new' (w.alloc (.cells #[.slice A zs.length c,.slice B xs.length d] 28)) 28 #[.slice C ts.length c',.slice D ys.length d'] (n:=w.heap.size+1) au).alloc (.cells #[.slice none 0 0,.slice none 0 0] 28);go_enter Tryz.func115,Tryz.ntmps115
 go_wp2_with fail
 refine(ah2 A B C D c d c' d' zs xs ts ys _ om om (X.below S) (h3.below S)).mono ?_;rintro e w1 ⟨rfl,hb⟩;rw[hr.out];have k1:=k0.keep hb;have m1:=Z.keep hb;have n1:=n0.keep hb;have Q:=dS S hb;obtain⟨q0,F⟩:=fC m1;clear k0 Z n0
 go_wp2_with fail
 refine(Dm A B c d zs xs _ om om (X.below Q) (h2.below Q)).mono ?_;rintro e w2 ⟨g,j,rfl,hg,hg',ho,T,G⟩;have k2:=k1.keep G;have n2:=n1.keep G;have B2:=dS Q G;have hsz1:=Q.size;have M:=B2.size;clear q0 F m1 k1 n1;obtain⟨q0,F⟩:=fC (n2.alloc (.cells #[.slice g zs.length zs.length,.slice j xs.length xs.length] 28))
 go_wp2_with fail
 go_loopw [19] (fun i wr=>∃k:Nat,k<=ys.length/\i=.int .i64 k/\Own wr g 3 zs/\Own wr j 65 (xB xs ys k)/\aD wr (w.heap.size+1+1) 28 #[.slice none 0 0,.slice none 0 0]/\aD wr w2.heap.size 28 #[.slice g zs.length zs.length,.slice j xs.length xs.length]/\Below w.heap.size w wr) (fun i _=>ys.length-(intOf i).toNat)
 case atStart=>exact⟨0,aS _,rfl,ho.alloc _,by simpa[xB]using T.alloc _,k2.alloc _,aD.new _ _ _,B2.alloc M _⟩
 case round=>
  clear q0 F;obtain⟨k,hk,rfl,o1,m,r,mb,l⟩:=hrel;by_cases I:k<ys.length
  ·have N:k<xs.length:=by rw[K.out];exact I
   obtain⟨b,off,y,rfl,hbb,hcy,O⟩:=(h4.below l).get I;obtain⟨x,J⟩:∃x,Hid (xs[k]?=some x):=⟨_,ae (aW N)⟩;have hcx:=m.cell (ah3 K.out J.out);have hfx:=m.frozen k;have U:=hx.out x (aK J.out);have V:=hy.out y (aK O.out);have P:=ae (m.aF k (dQ x y)).drew;rw[ah4 K.out J.out O.out]at P;have O1:=(o1.far (p:=⟨j,k,none⟩) (o1.bP (cs:=ints (xB xs ys k)) (T':=65) m ah) (.int .i64 (dQ x y))).drew;have KB:=(r.far (p:=⟨j,k,none⟩) (m.bP r ah).symm (.int .i64 (dQ x y))).drew;have MB:=(mb.far (p:=⟨j,k,none⟩) (m.bP mb ah).symm (.int .i64 (dQ x y))).drew;have HB:=(l.setCell (p:=⟨j,k,none⟩) (by show w.heap.size<=j;omega) (.int .i64 (dQ x y))).drew;obtain⟨p0,p1⟩:=fC mb;have CA:=ae (Rh (Dp x y wr.drew U V))
   go_wp2_with fail
   refine wp_region_still_tail 11 aj aj ?_;change wpStill _ _ (wr).drew _ _ _;simp only[mH,jr,qw,pF]
   iterate 9 still_step
   still_call CA.out
   repeat still_step
   refine qY ?_
   go_wp2_with fail
   go_roundw
   case rel=>exact⟨k+1,om,by go_num,O1,P.out,KB,MB,HB⟩
   case measure=>simp[intOf];omega
  ·rw[ah5 K.out (by rw[K.out];exact I)]at m;have P:=ae m;clear m;obtain⟨p0,p1⟩:=fC mb;obtain⟨q0,F⟩:=fC r;have f0:=r.frozen 0;have f1:=r.frozen 1;have l1:=o1.bP r ah;have l2:=P.out.bP r ah;have u:(xs.zipWith dQ ys).length=xs.length:=by have:=K.out;simp;omega
   have E:=ae u;clear u
   go_wp2_with fail
   have k3:=r.set2 (.slice g zs.length zs.length) (.slice j xs.length xs.length);have B3:=gW l (p:=w.heap.size+1+1) om (.slice g zs.length zs.length) (.slice j xs.length xs.length);have o3:=o1.dY l1 (.slice g zs.length zs.length) (.slice j xs.length xs.length);have o4:=P.out.dY l2 (.slice g zs.length zs.length) (.slice j xs.length xs.length);clear q0 F;obtain⟨q0,F⟩:=fC k3;refine bM (v:=.tuple #[.agg #[.slice g zs.length zs.length,.slice j xs.length xs.length],(0:Int)]) (by simp[results,Tryz.results115,go_sem,q0,F]) rfl ?_;exact zX.yes om om om (by rw[E.out];omega) o3 o4 B3 _ (by rw[E.out])
end
theorem IK{zs xs:List Int}(h:bH zs xs=true):xs.length<=65536/\zs.length<=4:=by
 have b:=(jI _ _).1 h;obtain⟨n,j,_,e⟩:=pQ b.1;exact⟨om,((j5 zs).1 b.1).2.1⟩
theorem IL{zs:List Int}{n:Nat}{z:Int}(b:zs[n]?=some z):aV zs=aV (zs.take n)*(z*aV (zs.drop (n+1))):=by
 have e:zs=zs.take n++(z::zs.drop (n+1)):=by rw[<-drop_at b,iX]
 conv=>lhs;rw[e]
 rw[Qg,aeV]
theorem IP{x:Int}(h:1<=x):∃n:Nat,x=(n:Int)/\1<=n:=⟨x.toNat,om,om⟩
theorem ah8{zs:List Int}{n:Nat}{z:Int}(e:jH zs=true)(u:zs[n]?=some z):
  ∃P Z I:Nat,aV (zs.take n)=(P:Int)/\z=(Z:Int)/\aV (zs.drop (n+1))=(I:Int)/\1<=P/\1<=Z/\1<=I/\aV zs=((P*(Z*I):Nat):Int):=by
 have hp:∀y∈zs,1<=y:=fun y b=>(zV e b).1;obtain⟨P,hP,j⟩:=IP (Dl (l:=zs.take n) fun y b=>hp y (gU b));obtain⟨I,B,m⟩:=IP (Dl (l:=zs.drop (n+1)) fun y b=>hp y (jo b));obtain⟨Z,C,r⟩:=IP (hp z (aK u));refine⟨P,Z,I,hP,C,B,j,r,m,?_⟩;rw[IL u,hP,B,C];simp[yx]
theorem YL{zs:List Int}(h:jH zs=true)(n:Nat){v:Int}(b:1<=v)(e:v<=1024):jH (zs.set n v)=true:=by
 refine fK.2 fun y j=>?_;rcases Hd j with hm|rfl
 ·exact fK.1 h y hm
 ·simp[b,e]
theorem YM{zs:List Int}{n:Nat}(v:Int)(b:n<zs.length):aV (zs.set n v)=aV (zs.take n)*(v*aV (zs.drop (n+1))):=by
 have e:(zs.set n v)[n]?=some v:=by rw[qX b]
 rw[IL e,Lj (az n),PR,if_pos om]
theorem ah9{P:Program}(t e:TypeId)(ht:P.underlying t=some (.slice e))(b:(P.info? e).map (fun i=>(i.zero,i.size,i.bytes))=some (some (.int .i64 0),1,8))(n:Nat)(m:n<=1000000)(W:World):
  (Instr.makeSlice t (.int .i64 0) (.int .i64 (n:Int))).run P W=.ok (.slice W.heap.size 0 n) (W.alloc (.cells (ints (List.replicate n 0)) e)):=by
 obtain⟨i,hi,j⟩:=bN.1 b;simp only[jZ]at j;obtain⟨l,hs,hb⟩:=j;have:=run_make (P:=P) W t e i (.int .i64 0) ht hi l .i64 .i64 0 n (jg _) om (by rw[hb];omega) om;rw[this,hs,<-EW];simp[Value.cells]
theorem aia(W:World)(E:TypeId)(n:Nat)(b:n<=1000000):aG (W.alloc (.cells (ints (List.replicate n 0)) E)) W.heap.size E (some ⟨W.heap.size,0,none⟩) n []:=
 World.ownsRow_made W _ n (az _) (by unfold maxLen;omega) (by simp[ints])
structure JW(n P I Z:Nat)(s:List Int):Prop where
 right:aU s=true
 lt:n<s.length
 at_:s[n]?=some (Z:Int)
 ahead:aV (s.take n)=(P:Int)
 behind:aV (s.drop (n+1))=(I:Int)
 p1:1<=P
 i1:1<=I
 z1:1<=Z
section
variable{n P I Z:Nat}{s:List Int}
theorem JW.prod(h:JW n P I Z s):aV s=((P*(Z*I):Nat):Int):=by
 rw[IL h.at_,h.ahead,h.behind];simp
theorem JW.small(h:JW n P I Z s):P*(Z*I)<=65536:=by
 have:=h.prod;obtain⟨_,_,_,b⟩:=(j5 s).1 h.right;rw[this]at b;omega
theorem JW.of{n:Nat}(hr:aU s=true)(b:n<s.length):∃P I Z,JW n P I Z s:=by
 obtain⟨_,_,e,_⟩:=(j5 s).1 hr;obtain⟨P,Z,I,j,l,m,hP,r,u,-⟩:=ah8 e (aW b);exact⟨P,I,Z,hr,b,by rw[aW b,l],j,m,hP,u,r⟩
end
section
variable{w w':World}{A B C D:Option Addr}{n m c d n' m' c' d' b b':Nat}{zs xs ts ys:List Int}{side E:Int}
theorem YN[a:Sl w A n zs][b:Sl w B m ts](e:n<=1000000)(hm:m<=1000000){V:List Int}{J:Int}(j:Hid (lL zs ts side=J))(hV:Hid (ma zs ts side=V)):Calls Tryz.prog 191 #[.slice A n c,.slice B m d,side] w (uO w V J):=by
 obtain⟨a,rfl⟩:=a;obtain⟨b,rfl⟩:=b;rw[<-j.out,<-hV.out];exact YG (afb A B c d zs ts side w e hm a b)
theorem aib[a:Sl w A n zs](e:n<=1000000){x y:Int}{V:List Int}{J:Int}(j:Hid (sV zs side x y=J))(hV:Hid (cutV zs side x y=V)):Calls Tryz.prog 129 #[.slice A n c,side,x,y] w (uO w V J):=by
 obtain⟨a,rfl⟩:=a;rw[<-j.out,<-hV.out];exact YG (ae5 A c zs side x y w e a)
theorem yV[a:Sl w A n zs](e:n<=1000000){V J:Int}(hV:Hid (bJ zs=V))(j:Hid (eT zs=J)):Calls Tryz.prog 73 #[.slice A n c] w (aM w (.tuple #[V,J])):=by
 obtain⟨a,rfl⟩:=a;rw[<-j.out,<-hV.out];exact Xh (Mc A c zs w e a)
theorem MO[a:Sl w A n zs][b:Sl w B m xs](e:n<=1000000)(hm:m<=1000000)(h:bH zs xs=true):Calls Tryz.prog 25 #[.slice A n c,.slice B m d] w (qE w zs xs 0):=by
 obtain⟨a,rfl⟩:=a;obtain⟨b,rfl⟩:=b;exact Re (afl A B c d zs xs w e hm a b (ae h))
end
structure Sp where
 A:Option Addr
 m:Nat
 c:Nat
 zs:List Int
def MP(w:World)(B:Option Addr)(ss:List Sp):Prop:=
 ∀(j:Nat) (x:Sp),ss[j]?=some x->∃b off,B=some ⟨b,off,none⟩/\b<w.heap.size/\w.cell? ⟨b,off+j,none⟩=some (.slice x.A x.m x.c)/\Rd w x.A x.zs/\x.m=x.zs.length/\x.m<=x.c
theorem MP.below{w w':World}{B:Option Addr}{ss:List Sp}(h:MP w B ss)(hb:Below w.heap.size w w'):MP w' B ss:=fun j x m=>by
 obtain⟨b,off,e,l,r,u,y,z⟩:=h j x m;exact⟨b,off,e,bV l hb.size,(hb.cell (p:=⟨b,off+j,none⟩) l).trans r,u.below hb,y,z⟩
class dA(w:World)(B:Option Addr)(n:Nat)(ss:outParam (List Sp)):Prop where
 rd:MP w B ss
 len:n=ss.length
def aJ(ss:List Sp):List (List Int):=ss.map (·.zs)
section
variable{w w':World}{A B:Option Addr}{n m c d N:Nat}{zs ts xs:List Int}{ss:List Sp}
instance(priority:=low) dA.step[p:ak w' w][h:dA w B n ss]:dA w' B n ss:=⟨h.rd.below p.st,h.len⟩
theorem jM:(aJ ss).length=ss.length:=dF _
theorem YO{k:Nat}{x:Sp}(h:ss[k]?=some x):(aJ ss)[k]?=some x.zs:=by unfold aJ;rw[dE,h];rfl
theorem dA.get(h:dA w B n ss){k:Nat}(j:k<n):∃b off A m c zs,B=some ⟨b,off,none⟩/\Old b w/\w.cell? ⟨b,off+k,none⟩=some (.slice A m c)/\Sl w A m zs/\Le m c/\Hid ((aJ ss)[k]?=some zs):=by
 have e:ss[k]?=some (ss[k]'(by rw[<-h.len];exact j)):=aW _;obtain⟨b,off,rfl,hb,l,r,u,y⟩:=h.rd k _ e;exact⟨b,off,_,_,_,_,rfl,⟨hb⟩,l,⟨r,u⟩,⟨y⟩,ae (YO e)⟩
theorem xC{L:List (List Int)}{k:Nat}(h:L[k]?=some zs):zs∈L:=aK h
theorem ry(h:aU zs=true):zs.length<=4:=((j5 zs).1 h).2.1
theorem YP(b o l c:Nat)(j:l+1<=c):
  ∃A',(∀w,(Instr.slice 82 (.slice (some ⟨b,o,none⟩) (l+1) c) (some (.int .i64 1)) none none).run Tryz.prog w=.ok (.slice A' l (c-1)) w)/\(0<l->A'=some ⟨b,o+1,none⟩):=by
 have hs:∀w,(sizeOf (Tryz.prog.elem 82)).run Tryz.prog w=.ok 1 w:=fun w=>by
  obtain⟨i,hi,e⟩:=bN.1 (show(Tryz.prog.info? (Tryz.prog.elem 82)).map (·.size)=some 1 from by kernel_rfl);simp[sizeOf,typeInfo,hi,e]
 refine⟨if c=1 then some ⟨b,o,none⟩else some ⟨b,o+1,none⟩,fun w=>?_,fun h=>if_neg om⟩;rw[j4 w 82 (some ⟨b,o,none⟩) (l+1) c aj .i64 1 om om,hs];simp[Result.andThen,sliced,Addr.add]
end
end Go.Proofs.YtmkjnlifimffkaaGreat
