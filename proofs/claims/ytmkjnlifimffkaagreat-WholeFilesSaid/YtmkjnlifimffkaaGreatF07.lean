/- Lemmas. -/
import Derived.Test.YtmkjnlifimffkaaGreatF02
import Derived.Lib.MinMax
import Derived.StillTailTactics
namespace Go.Proofs.YtmkjnlifimffkaaGreat
open Go.RowKit Tryz
set_option linter.all false
set_option maxRecDepth 100000
set_option maxHeartbeats 0
section
variable{P:Program}
def gO{t:TypeId}(hs:(P.info? (P.elem t)).map (·.size)=some 1)(w):(sizeOf (P.elem t)).run P w=.ok 1 w:=by
 have⟨i,hi,e⟩:=bD.1 hs;simp[sizeOf,typeInfo,hi,e]
section
variable(t:TypeId)(ht:P.underlying t=some (.slice (P.elem t)))(hs:(P.info? (P.elem t)).map (·.size)=some 1)
include ht hs
def uv(A:cD)(l c k:Nat)(i:Int)(hi:i=(k:Int))(C:k<=l)(y:l<=c):
  ∃m,(∀w,(Instr.slice t (A,l,c) (some (.int .i64 i)) none none).run P w=.ok (.slice m (l-k) (c-k)) w)/\(∀w zs,zs.length=l->Rd w A zs->Rd w m (zs.drop k)):=by
 subst hi;refine⟨if c=k then A else A.map (·.add k),λw=>?_,λw zs D h j z e=>?_⟩
 .rw[dk w t A l c ht .i64 k om om,gO hs];simp[Result.andThen,sliced]
 .rw[ff]at e;obtain⟨b,off,rfl,hb,r⟩:=h _ z e;have B:=(a5.1 e).1;rw[ag om];by_cases u:k=0
  .subst u;exact⟨b,off,by simp[Addr.add],hb,by simpa using r⟩
  .exact⟨b,off+k,by simp[Addr.add,u],hb,by rw[nl];exact r⟩
end
end
section
variable{w':World}{A:Option Addr}{b b' c f:Nat}{xs zs:List Int}{E:Int}{T:TypeId}{P:Program}{args:Array Value}
structure bV(B:Nat)(A:Option Addr):Prop where
 o:∀ad,A=some ad->B<=ad.block
section
variable{w:World}{n:Nat}
def bV.none:bV b none:=⟨λ_ h=>by cases h⟩
def bV.less(h:bV b A)(hb:b'<=b):bV b' A:=⟨λj e=>aO hb (h.o j e)⟩
def az.fre(h:az w b T A c zs):bV b A:=⟨h.fresh⟩
theorem Sl.setCell{p:Addr}(h:Sl w A n zs)(f:bV b A)(hp:p.block<b)(v):Sl (w.setCell p v) A n zs:=
 ⟨λj z l=>by
  have⟨k,off,e,hb,hc⟩:=h.rd j z l;refine⟨k,off,e,by simpa using hb,?_⟩;rw[<-hc];have:=f.o _ e;exact dY (bm w p v k (by simp only at this;omega)),h.len⟩
theorem Sl.cU{p:Nat}(h:Sl w A n zs)(f:bV b A)(hp:p<b)(v0 e):Sl ((w.setCell (p,0) v0).setCell (p,1) e) A n zs:=
 (h.setCell (p:=⟨p,0,none⟩) f hp v0).setCell (p:=⟨p,1,none⟩) f hp e
def he(w:ay)(zs xs:av)(E:Int)(e:Ending)(w':ay):Prop:=
 ∃A c B d,e=.returned (.tuple #[.agg #[.slice A zs c,.slice B xs d],E])/\Sl w' A zs zs/\Sl w' B xs xs/\Le zs.length c/\Le xs.length d/\bV w.1.size A/\bV w.1.size B/\aj w' w
def HR(h:Calls P f args w (nE w zs xs E)):Calls P f args w (he w zs xs E):=
 h.mono λ_ _ ⟨A,c,B,d,l,e,j,hb⟩=>⟨A,c,B,d,l,⟨e.rd,rfl⟩,⟨j.rd,rfl⟩,⟨e.gW⟩,⟨j.gW⟩,⟨e.fresh⟩,⟨j.fresh⟩,⟨hb⟩⟩
def jc(w:ay)(zs:av)(E:Int)(e:Ending)(w':ay):Prop:=
 ∃A c,e=.returned (.tuple #[.slice A zs c,E])/\Sl w' A zs zs/\Le zs.length c/\bV w.1.size A/\aj w' w
def PX(h:Calls P f args w (gf w zs E)):Calls P f args w (jc w zs E):=
 h.mono λ_ _ ⟨A,c,e,j,hb,l,m⟩=>⟨A,c,e,⟨j,rfl⟩,⟨m⟩,⟨l⟩,⟨hb⟩⟩
def Yy(w:ay)(zs:av)(e:Ending)(w':ay):Prop:=
 ∃g,e=.returned (.slice (some ⟨g,0,none⟩) zs zs.length)/\Sl w' (some ⟨g,0,none⟩) zs zs/\bV w.1.size (some ⟨g,0,none⟩)/\aj w' w
def pi[a:Sl w A n zs](j:n<=1000000):() 103 #[(A,n,c)] w (Yy w zs):=by
 obtain⟨a,rfl⟩:=a;exact(mJ A c zs w j a).mono λ_ _ ⟨g,l,hg,m,hb⟩=>⟨g,l,⟨m.rd,rfl⟩,⟨λr e=>by cases e;exact hg⟩,⟨hb⟩⟩
end
end
section
variable{P:Program}{args:Array Value}{v:Value}
def KM{f:FuncId}{w:ay}{n:Nat}
  (h:Calls P f args (w.drewN n) λe w'=>e=.returned v/\w.drewN n=w'):Calls P f args (w.drewN n) λe b=>e=.returned v/\∃m,b=w.drewN m:=
 h.mono λ_ _ ⟨j,hm⟩=>⟨j,n,hm.symm⟩
def KN{f:FuncId}{w:ay}{a n:Nat}
  (h:Calls P f args (w.drewN (a+n)) λe w'=>e=.returned v/\w.drewN (a+n)=w'):Calls P f args (w.drewN (a+n)) λe b=>e=.returned v/\∃m,b=w.drewN (a+m):=
 h.mono λ_ _ ⟨j,hm⟩=>⟨j,n,hm.symm⟩
def sx(l:List (Int×Int)):Int:=l.foldl (λs p=>cA s (ch p.1 p.2)) 0
def xo(l:List (Int×Int))(x y:Int):sx (l++[(x,y)])=cA (sx l) (ch x y):=by simp[sx]
def xp(l:List (Int×Int)):bo (sx l):=by
 rcases List.eq_nil_or_concat l with rfl|⟨m,x,rfl⟩
 .exact⟨ak,ak⟩
 .rw[List.concat_eq_append,xo];exact jI _ _
def uw(w:ay)(n:Int)(e:Ending)(w':ay):Prop:=e=.returned n/\∃m,w'=w.drewN m
def PY(A B:cD)(c d:Nat)(xs j:av)(w:ay)(hs:xs.length<=1000000)(_hs':j.length<=1000000)(F:Hx (∀z∈xs,bo z))(G:Hx (∀z∈j,bo z))(h:Rd w A xs)(I:Rd w B j):
  () 210 #[.slice A xs c,.slice B j d] w (uw w (sx (xs.zip j))):=by
 obtain⟨N,hN⟩:∃N:Nat,Hx (min xs.length j.length=N):=⟨_,ae rfl⟩;have Q:min (xs.length:Int) (j.length:Int)=(N:Int):=by have:=hN.o;omega
 have J:N<=xs.length:=by have:=hN.o;omega
 have K:N<=j.length:=by have:=hN.o;omega
 have L:Hx ((xs.zip j).length=N):=ae (by rw[List.length_zip];exact hN.o)
 go_in
 go_wp2
 go_loopw [5,12] (λs i wr=>∃k m:Nat,k<=N/\i=.int .i64 k/\s=.int .i64 (sx ((xs.zip j).take k))/\wr=w.drewN m) (λ_ i _=>N-(intOf i).toNat)
 .exact⟨0,0,aT _,rfl,rfl,rfl⟩
 ·
  obtain⟨k,m,R,rfl,rfl,rfl⟩:=hrel;by_cases M:k<N
  .obtain⟨b,off,x,rfl,hb,S,u⟩:=h.get (k:=k) om;obtain⟨T,E,y,rfl,O,P,C⟩:=I.get (k:=k) om;have l:=F.o x (aC u.o);have r:=G.o y (aC C.o);have D:Hx ((xs.zip j)[k]?=some (x,y)):=ae (by rw[Uj];exact⟨u.o,C.o⟩);have l1:k<xs.length:=om;have U:k<j.length:=om
   go_wp2
   go_big_quiet ((first|(go_at_call 170;exact KM (pa x y _ l r))|(go_at_call 170;exact KN (pa x y _ l r))|(go_at_call 171;exact KM (kM _ _ _ (xp _) (gG l r)))|(go_at_call 171;exact KN (kM _ _ _ (xp _) (gG l r)))))
   go_wp2
   go_roundw
   .exact⟨k+1,_,om,by go_num,by rw[take_at D.o,xo],rfl⟩
   .simp[intOf];omega
  .have e:Hx ((xs.zip j).take k=xs.zip j):=bR (by rw[L.o];omega)
   go_wp2
   go_ret;exact⟨bz (by rw[e.o]),_,rfl⟩
end
section
variable{P:Program}{args:Array Value}{v:Value}{D O xs zs:List Int}{x y:Int}
def pj{f:FuncId}{w:ay}(h:Calls P f args w λe w'=>e=.returned v/\w=w'):Calls P f args w λe w'=>e=.returned v/\w'=w:=
 h.mono λ_ _ ⟨b,j⟩=>⟨b,j.symm⟩
def ep(zs xs b e:av):Bool:=aJ zs xs&&aJ b e&&decide (zs=b)
def PZ(A B C D:cD)(c d m d':Nat)(zs xs b j:av)(w:ay)(I:zs.length<=1000000)(ht:b.length<=1000000)
  (J:Rd w A zs) (K:Rd w C b):
  () 183 #[.agg #[.slice A zs c,.slice B xs d],.agg #[.slice C b m,.slice D j d']] w (o6 w (.bool (ep zs xs b j))):=by
 have u:=((aY w.1.size w).alloc (an _) (.cells #[.slice A zs c,.slice B xs d] 28)).alloc aG (.cells #[.slice C b m,.slice D j d'] 28);have k0:=(aB.new w 28 #[.slice A zs c,.slice B xs d]).alloc (.cells #[.slice C b m,.slice D j d'] 28);have y:=aB.fx (w.alloc (.cells #[.slice A zs c,.slice B xs d] 28)) 28 #[.slice C b m,.slice D j d'] (n:=w.1.size+1) aG;rcases hr:aJ zs xs with _|_
 .have z:=ae hr;have E:Hx (ep zs xs b j=false):=ae (by simp[ep,hr])
  go_in
  go_wp2_with fail
  refine(fW A B c d zs xs _ I (J.below u)).mono ?_;rintro e w1 ⟨rfl,hb⟩;rw[z.o]
  go_wp2
  go_ret;exact⟨bP E.o.symm,dW u hb⟩
 rcases ql:aJ b j with _|_
 .have z:=ae hr;have r:=ae ql;have E:Hx (ep zs xs b j=false):=ae (by simp[ep,ql])
  go_in
  go_wp2_with fail
  refine(fW A B c d zs xs _ I (J.below u)).mono ?_;rintro e w1 ⟨rfl,hb⟩;rw[z.o];have F:=dW u hb;have⟨q0,q1⟩:=di (y.keep hb)
  go_wp2_with fail
  refine(fW C D m d' b j _ ht (K.below F)).mono ?_;rintro e w2 ⟨rfl,l⟩;rw[r.o]
  go_wp2
  go_ret;exact⟨bP E.o.symm,dW F l⟩
 .have z:=ae hr;have r:=ae ql;have E:Hx (ep zs xs b j=decide (zs=b)):=ae (by simp[ep,hr,ql])
  go_in
  go_wp2_with fail
  refine(fW A B c d zs xs _ I (J.below u)).mono ?_;rintro e w1 ⟨rfl,hb⟩;rw[z.o];have F:=dW u hb;have k1:=k0.keep hb;have G:=y.keep hb;have⟨q0,q1⟩:=di G
  go_wp2_with fail
  refine(fW C D m d' b j _ ht (K.below F)).mono ?_;rintro e w2 ⟨rfl,l⟩;rw[r.o];have L:=dW F l;have⟨p0,p1⟩:=di (k1.keep l);have⟨q0,q1⟩:=di (G.keep l)
  go_wp2_with fail
  refine(tq A C c m zs b _ I ht (J.below L) (K.below L)).mono ?_;rintro e w3 ⟨rfl,n,rfl⟩
  go_wp2
  go_ret;exact⟨bP E.o.symm,below_drewN L n⟩
def kS(xs b:av)(k:Nat):List Int:=(xs.take k).zipWith cA (b.take k)++xs.drop k
def Me{k:Nat}(e:xs.length=O.length)(b:xs[k]?=some x):(kS xs O k)[k]?=some x:=by
 have⟨hk,_⟩:=a5.1 b;rw[kS,ew bY];simp only[Cf,bB,ff];rw[show k+(k-min (min k xs.length) (min k O.length))=k from om];exact b
def HV{k:Nat}(l:xs.length=O.length)(b:xs[k]?=some x)(e:O[k]?=some y):(kS xs O k).set k (cA x y)=kS xs O (k+1):=by
 have⟨hk,_⟩:=a5.1 b;have j:((xs.take k).zipWith cA (O.take k)).length=k:=by simp;omega
 rw[kS,kH _ _ om,j,eB,Em b,jq,kS,take_at b,take_at e,List.zipWith_append bY];simp
def HZ{k:Nat}(b:xs.length=O.length)(e:¬k<xs.length):kS xs O k=xs.zipWith cA O:=by
 rw[kS,bR om,bR om,ey om,fG]
def H6(h:ep zs xs O D=true):zs=O/\xs.length=D.length/\aJ zs xs=true/\aJ O D=true/\xs.length<=65536/\zs.length<=4:=by
 simp only[ep,bW,cu]at h;have⟨⟨h1,h2⟩,h3⟩:=h;have b:=(bf _ _).1 h1;have e:=(bf _ _).1 h2;subst h3;have⟨n,hn,_,hn6⟩:=cV b.1;exact⟨rfl,om,h1,h2,om,((bE zs).1 b.1).2.1⟩
def H7(A B C D:cD)(c d K d':Nat)(zs xs r j:av)(w:ay)
  (h1:Rd w A zs) (h2:Rd w B xs) (h3:Rd w C r) (h4:Rd w D j) (hx:Hx (∀z∈xs,bo z)) (hy:Hx (∀z∈j,bo z)) (hr:Hx (ep zs xs r j=true)):
  () 115 #[.agg #[.slice A zs c,.slice B xs d],.agg #[.slice C r K,.slice D j d']] w (nE w zs (xs.zipWith cA j) 0):=by
 obtain⟨N,hl,_,_,P0,U⟩:=H6 hr.o;have L:=ae hl;have Yz:r.length<=4:=by rw[<-N];exact U
 clear hl N;have V:=(((aY w.1.size w).alloc (an _) (.cells #[.slice A zs c,.slice B xs d] 28)).alloc aG (.cells #[.slice C r K,.slice D j d'] 28)).alloc bY (.cells #[(),()] 28);have k0:=aB.fx ((w.alloc (.cells #[.slice A zs c,.slice B xs d] 28)).alloc (.cells #[.slice C r K,.slice D j d'] 28)) 28 #[(),()] (n:=w.1.size+1+1) aG;have m0:=((aB.new w 28 #[.slice A zs c,.slice B xs d]).alloc (.cells #[.slice C r K,.slice D j d'] 28)).alloc (.cells #[(),()] 28);have n0:=(aB.fx (w.alloc (.cells #[.slice A zs c,.slice B xs d] 28)) 28 #[.slice C r K,.slice D j d'] (n:=w.1.size+1) aG).alloc (.cells #[(),()] 28)
 go_in
 go_wp2_with fail
 refine(PZ A B C D c d K d' zs xs r j _ om om (h1.below V) (h3.below V)).mono ?_;rintro e w1 ⟨rfl,hb⟩;rw[hr.o];have k1:=k0.keep hb;have m1:=m0.keep hb;have n1:=n0.keep hb;have T:=dW V hb;obtain⟨q0,M⟩:=di m1;clear k0 m0 n0
 go_wp2_with fail
 refine(nF A B c d zs xs _ om om (h1.below T) (h2.below T)).mono ?_;rintro e w2 ⟨g,l,rfl,hg,YA,ho,X,G⟩;have k2:=k1.keep G;have n2:=n1.keep G;have B2:=dW T G;have acq:=T.size;have O:=B2.size;clear q0 M m1 k1 n1;obtain⟨q0,M⟩:=di (n2.alloc (.cells #[.slice g zs zs.length,.slice l xs xs.length] 28))
 go_wp2_with fail
 go_loopw [19] (λi wr=>∃k:Nat,k<=j.length/\i=.int .i64 k/\Own wr g 3 zs/\Own wr l 65 (kS xs j k)/\aB wr (w.1.size+1+1) 28 #[(),()]/\aB wr w2.1.size 28 #[.slice g zs zs.length,.slice l xs xs.length]/\Below w.1.size w wr) (λi _=>j.length-(intOf i).toNat)
 case atStart=>exact⟨0,aT _,rfl,ho.alloc _,by simpa[kS]using X.alloc _,k2.alloc _,aB.new _ _ _,B2.alloc O _⟩
 case round=>
  clear q0 M;obtain⟨k,hk,rfl,o1,u,E,mb,m⟩:=hrel;by_cases I:k<j.length
  .have P:k<xs.length:=by rw[L.o];exact I
   obtain⟨b,off,y,rfl,hbb,YB,Q⟩:=(h4.below m).get I;obtain⟨x,J⟩:∃x,Hx (xs[k]?=some x):=⟨_,ae (bc P)⟩;have hcx:=u.cell (Me L J.o);have hfx:=u.frozen k;have Y:=hx.o x (aC J.o);have Z:=hy.o y (aC Q.o);have R:=ae (u.ax k (cA x y)).drew;rw[HV L.o J.o Q.o]at R;have O1:=(o1.a9 (p:=⟨l,k,none⟩) (o1.aS (cs:=ints (kS xs j k)) (T':=65) u ak) (cA x y:Int)).drew;have KB:=(E.a9 (p:=⟨l,k,none⟩) (u.aS E ak).symm (cA x y:Int)).drew;have MB:=(mb.a9 (p:=⟨l,k,none⟩) (u.aS mb ak).symm (cA x y:Int)).drew;have HB:=(m.setCell (p:=⟨l,k,none⟩) (by show w.1.size<=l;omega) (cA x y:Int)).drew;have⟨p0,p1⟩:=di mb;have CA:=ae (pj (kM x y wr.drew Y Z))
   go_wp2
   refine wp_region_still_tail 11 aq aq ?_;change wpStill _ _ (wr).drew _ _ _;simp only[fh,dK,g4,eT]
   iterate 9 still_step
   still_call CA
   repeat still_step
   refine fJ ?_
   go_wp2
   go_roundw
   .exact⟨k+1,om,by go_num,O1,R,KB,MB,HB⟩
   .simp[intOf];omega
  .rw[HZ L.o (by rw[L.o];exact I)]at u;have R:=ae u;have⟨p0,p1⟩:=di mb;have⟨q0,M⟩:=di E;have f0:=E.frozen 0;have f1:=E.frozen 1;have l1:=o1.aS E ak;have l2:=R.o.aS E ak;have S:(xs.zipWith cA j).length=xs.length:=by have:=L.o;simp;omega
   have F:=ae S
   go_wp2
   have k3:=E.cY (.slice g zs zs.length) (.slice l xs xs.length);have B3:=cM m (p:=w.1.size+1+1) om (.slice g zs zs.length) (.slice l xs xs.length);have o3:=o1.cU l1 (.slice g zs zs.length) (.slice l xs xs.length);have o4:=R.o.cU l2 (.slice g zs zs.length) (.slice l xs xs.length);obtain⟨q0,M⟩:=di k3;refine a8 (v:=.tuple #[.agg #[.slice g zs zs.length,.slice l xs xs.length],au]) (by simp[results,results115,go_sem,q0,M]) rfl ?_;exact nE.yes om om om (by rw[F.o];omega) o3 o4 B3 _ (by rw[F.o])
end
variable{xs zs:List Int}
def jO(h:aJ zs xs=true):xs.length<=65536/\zs.length<=4:=by
 have b:=(bf _ _).1 h;have⟨n,hn,_,hn6⟩:=cV b.1;exact⟨om,((bE zs).1 b.1).2.1⟩
variable{x z:Int}
def iF{n:Nat}(b:zs[n]?=some z):aN zs=aN (zs.take n)*(z*aN (zs.drop (n+1))):=by
 have e:zs=zs.take n++(z::zs.drop (n+1)):=by rw[<-Em b,de]
 conv=>lhs;rw[e]
 rw[mq,El]
def jP(h:1<=x):∃n:Nat,x=(n:Int)/\1<=n:=⟨x.toNat,om,om⟩
def H8{n:Nat}(e:cq zs=true)(j:zs[n]?=some z):
  ∃P Z I:Nat,aN (zs.take n)=(P:Int)/\z=(Z:Int)/\aN (zs.drop (n+1))=(I:Int)/\1<=P/\1<=Z/\1<=I/\aN zs=((P*(Z*I):Nat):Int):=by
 have hp:∀y∈zs,1<=y:=λy b=>(eo e b).1;have⟨P,hP,UW⟩:=jP (h1 (l:=zs.take n) λy b=>hp y (cG b));have⟨I,hI,hI1⟩:=jP (h1 (l:=zs.drop (n+1)) λy b=>hp y (dC b));have⟨Z,hZ,P5⟩:=jP (hp z (aC j));refine⟨P,Z,I,hP,hZ,hI,UW,P5,hI1,?_⟩;rw[iF j,hP,hI,hZ];simp[mm]
def sy(h:cq zs=true)(n){v:Int}(b:1<=v)(e:v<=1024):cq (zs.set n v)=true:=by
 refine cZ.2 λy j=>?_;rcases rH j with hm|rfl
 .exact cZ.1 h y hm
 .simp[b,e]
def xq{n:Nat}(v)(b:n<zs.length):aN (zs.set n v)=aN (zs.take n)*(v*aN (zs.drop (n+1))):=by
 have e:(zs.set n v)[n]?=some v:=by rw[h0 b]
 rw[iF e,vO (an n),Cp,ah om]
section
variable{P:Program}
def zY(t e:TypeId)(ht:P.underlying t=some (.slice e))(b:(P.info? e).map (λi=>(i.zero,i.size,i.bytes))=some (some (.int .i64 0),1,8))(n:Nat)(j:n<=1000000)(W:ay):
  (Instr.makeSlice t au (n:Int)).run P W=.ok (W,0,n) (W.alloc (.cells (ints (List.replicate n 0)) e)):=by
 have⟨i,hi,fk⟩:=bD.1 b;simp only[dL]at fk;have⟨hz,hs,hb⟩:=fk;have:=run_make (P:=P) W t e i au ht hi hz .i64 .i64 0 n (dM _) om (by rw[hb];omega) om;rw[this,hs,<-hY];simp[Value.cells]
def Mf(W:ay)(E:TypeId)(n:Nat)(b:n<=1000000):az (W.alloc (.cells (ints (List.replicate n 0)) E)) W.1.size E W n []:=
 World.ownsRow_made W _ n (an _) (by unfold maxLen;omega) (by simp[ints])
end




variable{I Z:Nat}
structure JW(n P I Z:Nat)(s:List Int):Prop where
 right:aA s=true
 lt:n<s
 at_:s[n]?=some (Z:Int)
 ahead:aN (s.take n)=(P:Int)
 behind:aN (s.drop (n+1))=(I:Int)
 p1:1<=P
 i1:1<=I
 z1:1<=Z
section
variable{n P:Nat}{s:List Int}
def JW.prod(h:JW n P I Z s):aN s=((P*(Z*I):Nat):Int):=by
 rw[iF h.at_,h.ahead,h.behind];simp
def JW.small(h:JW n P I Z s):P*(Z*I)<=65536:=by
 have:=h.prod;have⟨_,_,_,h4⟩:=(bE s).1 h.right;rw[this]at h4;omega
def JW.of{n:Nat}(hr:aA s=true)(b:n<s.length):∃P I Z,JW n P I Z s:=by
 have⟨_,_,O8,_⟩:=(bE s).1 hr;obtain⟨P,Z,I,e,j,l,hP,m,r,-⟩:=H8 O8 (bc b);exact⟨P,I,Z,hr,b,by rw[bc b,j],e,l,hP,r,m⟩
end
variable{R:Nat}{side:Int}{t:Tn}

variable{w':World}{A B C:Option Addr}{b b' c c' d d' m:Nat}{ys:List Int}{E y:Int}
section
variable{w:World}{D:Option Addr}{n m':Nat}{ts:List Int}
def EX[a:Sl w A n zs][b:Sl w B m ts](e:n<=1000000)(hm:m<=1000000){V:av}(j:Hx (eM zs ts side=z))(hV:Hx (e7 zs ts side=V)):() 191 #[(A,n,c),(B,m,d),side] w (jc w V z):=by
 obtain⟨a,rfl⟩:=a;obtain⟨b,rfl⟩:=b;rw[<-j.o,<-hV.o];exact PX (O7 A B c d zs ts side w e hm a b)
def UX[a:Sl w A n zs](e:n<=1000000){V:av}(j:Hx (lW zs side x y=z))(hV:Hx (lX zs side x y=V)):() 129 #[(A,n,c),side,x,y] w (jc w V z):=by
 obtain⟨a,rfl⟩:=a;rw[<-j.o,<-hV.o];exact PX (Us A c zs side x y w e a)
def hH[a:Sl w A n zs](e:n<=1000000){V:Int}(hV:Hx (bt zs=V))(j:Hx (cg zs=z)):() 73 #[(A,n,c)] w (aD w (.tuple #[V,z])):=by
 obtain⟨a,rfl⟩:=a;rw[<-j.o,<-hV.o];exact WJ (r8 A c zs w e a)
def wv[a:Sl w A n zs][b:Sl w B m xs](e:n<=1000000)(hm:m<=1000000)(h:aJ zs xs=true):() 25 #[(A,n,c),(B,m,d)] w (he w zs xs 0):=by
 obtain⟨a,rfl⟩:=a;obtain⟨b,rfl⟩:=b;exact HR (LK A B c d zs xs w e hm a b h)
end
variable{L:List (List Int)}
structure Sp where
 A:Option Addr
 m:Nat
 c:Nat
 zs:List Int
def KO(w:ay)(B:cD)(e:List Sp):Prop:=
 ∀(j:Nat) (x:Sp),e[j]?=some x->∃b off,B=some ⟨b,off,none⟩/\b<w.1.size/\w.cell? (b,off+j)=some (.slice x.A x.m x.c)/\Rd w x.A x.zs/\x.m=x.zs.length/\x.m<=x.c
def KO.below{w w':ay}{B:cD}{l:List Sp}(h:KO w B l)(hb:Below w.1.size w w'):KO w' B l:=λj x m=>by
 have⟨b,off,e,bK,h1,h2,h3,h4⟩:=h j x m;exact⟨b,off,e,bu bK hb.size,(hb.cell (p:=⟨b,off+j,none⟩) bK).trans h1,h2.below hb,h3,h4⟩
class du(w:World)(B:Option Addr)(n:Nat)(ss:outParam (List Sp)):Prop where
 rd:KO w B ss
 len:n=ss
def aW(b:List Sp):List (List Int):=b.map (·.zs)
section
variable{w:World}{n N:Nat}{ts:List Int}{ss:List Sp}
instance(priority:=low) du.step[p:aj w' w][h:du w B n ss]:du w' B n ss:=⟨h.rd.below p.st,h.len⟩
def cj:(aW ss).length=ss.length:=br _
def EY{k:Nat}{x:Sp}(h:ss[k]?=some x):(aW ss)[k]?=some x.zs:=by unfold aW;rw[bj,h];rfl
def du.get(h:du w B n ss){k:Nat}(j:k<n):∃b off A m c zs,B=some ⟨b,off,none⟩/\Old b w/\w.cell? (b,off+k)=some (.slice A m c)/\Sl w A m zs/\Le m c/\Hx ((aW ss)[k]?=some zs):=by
 have e:ss[k]?=some (ss[k]'(by rw[<-h.len];exact j)):=bc _;obtain⟨b,off,rfl,hb,l,r,u,y⟩:=h.rd k _ e;exact⟨b,off,_,_,_,_,rfl,⟨hb⟩,l,⟨r,u⟩,⟨y⟩,ae (EY e)⟩
def gP{k:Nat}(h:L[k]?=some zs):zs∈L:=aC h
def cw(h:aA zs=true):zs.length<=4:=((bE zs).1 h).2.1
def sA(b o l c)(r:l+1<=c):
  ∃j,(∀w,(Instr.slice 82 (.slice (some ⟨b,o,none⟩) (l+1) c) (some (.int .i64 1)) none none).run prog w=.ok (.slice j l (c-1)) w)/\(0<l->j=some ⟨b,o+1,none⟩):=by
 have hs:∀w,(sizeOf (prog.elem 82)).run prog w=.ok 1 w:=λw=>by
  have⟨i,hi,e⟩:=bD.1 (show(prog.info? (prog.elem 82)).map (·.size)=some 1 from by kernel_rfl);simp[sizeOf,typeInfo,hi,e]
 refine⟨if c=1 then some ⟨b,o,none⟩else some ⟨b,o+1,none⟩,λw=>?_,λh=>ag om⟩;rw[dk w 82 (some ⟨b,o,none⟩) (l+1) c aq .i64 1 om om,hs];simp[Result.andThen,sliced,Addr.add]
end
