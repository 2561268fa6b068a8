/- Lemmas. No condition. -/
import Derived.Test.YtmkjnlifimffkaaGreatS01
namespace Go.Proofs.YtmkjnlifimffkaaGreat
open Go.RowKit
set_option maxRecDepth 100000
set_option maxHeartbeats 16000000
def aV(zs:List Int):Int:=zs.foldl (· * ·) 1
def jH(zs:List Int):Bool:=zs.all fun z=>decide (1<=z)&&decide (z<=1024)
def aU(zs:List Int):Bool:=decide (1<=zs.length)&&decide (zs.length<=4)&&jH zs&&decide (aV zs<=65536)
theorem Qe(l:List Int)(z:Int):aV (l++[z])=aV l*z:=by simp[aV]
theorem take_at{α:Type}{l:List α}{k:Nat}{z:α}(h:l[k]?=some z):l.take (k+1)=l.take k++[z]:=by
 obtain⟨b,rfl⟩:=aY.1 h;exact Lb b
theorem aeN(l:List Int)(z:Int):jH (l++[z])=(jH l&&(decide (1<=z)&&decide (z<=1024))):=by simp[jH]
theorem zV{l:List Int}(h:jH l=true){z:Int}(b:z∈l):1<=z/\z<=1024:=by
 have:=fK.1 h z b;simpa using this
theorem Dk{l:List Int}(h:jH l=true){k:Nat}{z:Int}(b:l[k]?=some z):1<=z/\z<=1024:=
 zV h (aK b)
theorem aeO{l:List Int}(h:jH l=true)(k:Nat):jH (l.take k)=true:=
 fK.2 fun z b=>fK.1 h z (gU b)
theorem aeP{l:List Int}{k:Nat}{z:Int}(b:l[k]?=some z)(h:¬(1<=z/\z<=1024)):jH l=false:=by
 rcases hb:jH l with _|_
 ·rfl
 ·exact absurd (Dk hb b) h
theorem aeQ{l:List Int}(h:jH l=false):aU l=false:=by simp[aU,h]
theorem aeR{l:List Int}(h:¬(1<=l.length/\l.length<=4)):aU l=false:=by
 simp[aU];omega
theorem aeS{l:List Int}(b:1<=l.length)(e:l.length<=4)(h:jH l=true):aU l=decide (aV l<=65536):=by simp[aU,b,e,h]
theorem aeT{a b c:Int}(l:1<=a)(e:a<=c)(hb:1<=b)(j:b<=1024):1<=a*b/\a*b<=c*1024:=by
 have m:a*b<=c*b:=K5 e om;have r:c*b<=c*1024:=EY j om;have u:1*1<=a*b:=yI l hb om om;omega
theorem Xb(l:List Int)(h:jH l=true):1<=aV l/\aV l<=1024^l.length:=by
 have key:∀(m:List Int) (a c:Int),jH m=true->1<=a->a<=c->1<=m.foldl (· * ·) a/\m.foldl (· * ·) a<=c*1024^m.length:=by
  intro m
  induction m with
  |nil=>intro a c _ j r;simpa using⟨j,r⟩
  |cons z m B=>
   intro a c hm j r;have y:=zV hm (dN);have u:jH m=true:=by simp[jH]at hm⊢;exact hm.2
   have b:=aeT j r y.1 y.2;have:=B (a*z) (c*1024) u b.1 b.2;simp only[yD,iJ];refine⟨this.1,?_⟩;have e:c*1024^(m.length+1)=c*1024*1024^m.length:=by
    rw[Pq,sH (1024^m.length) 1024,<-uw]
   rw[e];exact this.2
 have:=key l 1 1 h om om;simpa[aV]using this
theorem Qf(l:List Int)(h:jH l=true)(m:l.length<=4):1<=aV l/\aV l<=1099511627776:=by
 obtain⟨b,j⟩:=Xb l h;refine⟨b,?_⟩;have:l.length=0\/l.length=1\/l.length=2\/l.length=3\/l.length=4:=om;rcases this with e|e|e|e|e<;>rw[e]at j<;>omega
theorem j5(zs:List Int):aU zs=true↔1<=zs.length/\zs.length<=4/\jH zs=true/\aV zs<=65536:=by
 simp[aU,Ic]
theorem Dl{l:List Int}(h:∀z∈l,1<=z):1<=aV l:=by
 have key:∀(m:List Int) (a:Int),(∀z∈m,1<=z)->1<=a->a<=m.foldl (· * ·) a:=by
  intro m
  induction m with
  |nil=>intro a _ _;exact jg a
  |cons z m e=>
   intro a hm u;have j:=hm z dN;have b:a*1<=a*z:=EY j om;rw[Int.mul_one]at b;exact P6 b (e (a*z) (fun y r=>hm y (fI _ r)) om)
 exact key l 1 h (jg 1)
theorem Qg(a b:List Int):aV (a++b)=aV a*aV b:=by
 have key:∀(m:List Int) (x:Int),m.foldl (· * ·) x=x*m.foldl (· * ·) 1:=by
  intro m
  induction m with
  |nil=>intro x;simp
  |cons z m e=>intro x;simp only[yD];rw[e (x*z),e (1*z)];simp[uw]
 simp only[aV,C9];rw[key]
theorem aeU{l:List Int}(h:∀z∈l,1<=z)(k:Nat):aV (l.take k)<=aV l:=by
 have m:1<=aV (l.take k):=Dl fun z b=>h z (gU b);have j:1<=aV (l.drop k):=Dl fun z b=>h z (jo b);have e:aV l=aV (l.take k)*aV (l.drop k):=by rw[<-Qg,iX]
 rw[e];have:aV (l.take k)*1<=aV (l.take k)*aV (l.drop k):=EY j om;rwa[Int.mul_one]at this
def bJ(zs:List Int):Int:=if aU zs then aV zs else 0
def eT(zs:List Int):Int:=if aU zs then 0 else 20
theorem aeV(z:Int)(zs:List Int):aV (z::zs)=z*aV zs:=by
 have:=Qg [z] zs;simpa[aV]using this
theorem drop_at{α:Type}{l:List α}{k:Nat}{z:α}(h:l[k]?=some z):l.drop k=z::l.drop (k+1):=by
 obtain⟨b,rfl⟩:=aY.1 h;exact jE b
theorem aeW{l:List Int}(h:jH l=true)(k:Nat):jH (l.drop k)=true:=
 fK.2 fun z b=>fK.1 h z (jo b)
def Qh(w:World)(b:Bool)(e:Ending)(w':World):Prop:=e=.returned (.bool b)/\∃n,w'=w.drewN n
theorem aeX{xs ys:List Int}{k:Nat}{x y:Int}(e:xs[k]?=some x)(b:ys[k]?=some y)(h:x≠y):xs≠ys:=by
 rintro rfl;rw[e]at b;injection b with b;exact h b
theorem aeY{xs ys:List Int}{k:Nat}(b:xs.length=ys.length)(h:xs.take k=ys.take k)(e:¬k<xs.length):xs=ys:=by
 rw[dB om,dB om]at h;exact h
section
def iZ(z:Int):Bool:=decide (0<=z)&&decide (z<=1099511627776)
theorem Qi(z:Int)(w:World):Calls Tryz.prog 77 #[z] w fun e w'=>e=.returned (.bool (iZ z))/\w=w':=by
 go_enter Tryz.func77,Tryz.ntmps77
 go_wp2
 all_goals
  go_ret;exact⟨jD (by simp_all [iZ];try omega),rfl⟩
theorem aeZ(z:Int)(w:World):Calls Tryz.prog 131 #[z] w fun e w'=>e=.returned (.bool (z !=0))/\w=w':=by
 go_enter Tryz.func131,Tryz.ntmps131
 go_wp2
 go_ret;exact⟨rfl,rfl⟩
theorem Qj(F:Nat)(f:Int->Bool)(hF:∀z w,Calls Tryz.prog F #[.int .i64 z] w fun e w'=>e=.returned (.bool (f z))/\w=w')
  (m:∀z w,Sem.run Tryz.prog (callFunc F #[.int .i64 z]) w=.ok (.enter F #[.int .i64 z]) w)
  (A:Option Addr) (c:Nat) (zs:List Int) (w:World) (hs:zs.length<=1000000) (h:Rd w A zs):
  Calls Tryz.prog 76 #[.slice A zs.length c,.func (.func F) #[] #[]] w fun e w'=>e=.returned (.bool (zs.all f))/\w=w':=by
 have u:=ae hF;clear hF;go_enter Tryz.func76,Tryz.ntmps76
 go_wp2_with fail
 go_loop [9] (fun i=>∃k:Nat,k<=zs.length/\i=.int .i64 k/\(zs.take k).all f=true) (fun i=>zs.length-(intOf i).toNat)
 case atStart=>exact⟨0,aS _,rfl,rfl⟩
 case round=>
  obtain⟨k,E,rfl,j⟩:=hrel;have y:=ae j;clear j;by_cases r:k<zs.length
  ·obtain⟨b,off,z,rfl,hb,G,B⟩:=h.get r;rcases hfz:f z with _|_
   ·have l:=ae hfz;clear hfz;have C:Hid (zs.all f=false):=by
     refine Fe.2 ⟨z,aK B.out,?_⟩;rw[l.out];simp
    go_wp2_with fail
    refine(u.out z _).mono ?_;rintro e w' ⟨rfl,rfl⟩;rw[l.out]
    go_wp2_with fail
    go_ret;exact⟨jD (by rw[C.out]),rfl⟩
   ·have l:=ae hfz;clear hfz
    go_wp2_with fail
    refine(u.out z _).mono ?_;rintro e w' ⟨rfl,rfl⟩;rw[l.out]
    go_wp2_with fail
    go_round
    case rel=>exact⟨k+1,om,by go_num,by rw[take_at B.out,LF,y.out];simp[l.out]⟩
    case measure=>simp[intOf];omega
  ·have D:Hid (zs.all f=true):=by
    have:=y.out;rwa[dB om]at this
   go_wp2_with fail
   go_ret;exact⟨jD (by rw[D.out]),rfl⟩
theorem ae0(w:World)(p z:Int)(hp:1<=p)(j:1<=z)(l:p<=1099511627776)(h:p*z<=1099511627776):
  Calls Tryz.prog 132 #[z,.pointer w.heap.size] (w.alloc (.cells #[p] 3)) fun e w'=>e=.returned (.bool true)/\w.alloc (.cells #[.int .i64 (p*z)] 3)=w':=by
 have m:¬(1099511627776/p<z):=by
  have:=(Lm (a:=z) (b:=1099511627776) (c:=p) om).2 (by rw[sH];exact h);omega
 have r:1<=p*z:=by have:=yI hp j om om;omega
 go_enter Tryz.func132,Tryz.ntmps132
 go_wp2
 go_ret;exact⟨rfl,rfl⟩
theorem ae1(w:World)(p z:Int)(hp:1<=p)(_hz:1<=z)(j:p<=1099511627776)(h:¬p*z<=1099511627776):
  Calls Tryz.prog 132 #[z,.pointer w.heap.size] (w.alloc (.cells #[p] 3)) fun e w'=>e=.returned (.bool false)/\w.alloc (.cells #[p] 3)=w':=by
 have m:1099511627776/p<z:=by
  by_cases l:1099511627776/p<z
  ·exact l
  ·exact absurd (by have:=(Lm (a:=z) (b:=1099511627776) (c:=p) om).1 om;rwa[sH]at this) h
 go_enter Tryz.func132,Tryz.ntmps132
 go_wp2
 go_ret;exact⟨rfl,rfl⟩
def ae2(w:World)(zs:List Int)(e:Ending)(w':World):Prop:=
 e=.returned (.bool (decide (aV zs<=1099511627776)))/\∃p,w'=w.alloc (.cells #[.int .i64 p] 3)/\(aV zs<=1099511627776->p=aV zs)
theorem ae3(A:Option Addr)(c:Nat)(zs:List Int)(w:World)(hs:zs.length<=1000000)(h:Rd w A zs)(j:Hid (∀z∈zs,1<=z)):
  Calls Tryz.prog 76 #[.slice A zs.length c,.func (.func 132) #[] #[.pointer w.heap.size]] (w.alloc (.cells #[(1:Int)] 3)) (ae2 w zs):=by
 have F:=h.alloc (.cells #[(1:Int)] 3);go_enter Tryz.func76,Tryz.ntmps76
 go_wp2_with fail
 go_loopw [9] (fun i wr=>∃k:Nat,k<=zs.length/\i=.int .i64 k/\aV (zs.take k)<=1099511627776/\wr=w.alloc (.cells #[.int .i64 (aV (zs.take k))] 3)) (fun i _=>zs.length-(intOf i).toNat)
 case atStart=>exact⟨0,aS _,rfl,by simp[aV],rfl⟩
 case round=>
  obtain⟨k,J,rfl,l,rfl⟩:=hrel;have u:1<=aV (zs.take k):=Dl fun z r=>j.out z (gU r);by_cases B:k<zs.length
  ·have C:=h.alloc (.cells #[.int .i64 (aV (zs.take k))] 3);obtain⟨b,off,z,rfl,hb,K,r⟩:=h.get B;have y:1<=z:=j.out z (aK r.out);have G:=C.all r.out;clear F C;by_cases m:aV (zs.take k)*z<=1099511627776
   ·go_wp2_with fail
    refine(ae0 w _ z u y l m).mono ?_;rintro e w' ⟨rfl,rfl⟩
    go_wp2_with fail
    go_roundw
    case rel=>exact⟨k+1,om,by go_num,by rw[take_at r.out,Qe];exact m,by rw[take_at r.out,Qe]⟩
    case measure=>simp[intOf];omega
   ·have D:Hid (1099511627776<aV zs):=ae (by
     have:=aeU j.out (k+1);rw[take_at r.out,Qe]at this;omega)
    go_wp2_with fail
    refine(ae1 w _ z u y l om).mono ?_;rintro e w' ⟨rfl,rfl⟩
    go_wp2_with fail
    go_ret;exact⟨jD (by simpa using D.out),_,rfl,fun I=>absurd I (by have:=D.out;omega)⟩
  ·have E:Hid (zs.take k=zs):=dB om
   go_wp2_with fail
   go_ret;rw[E.out]at l;exact⟨jD (by simpa using l),_,rfl,fun _=>by rw[E.out]⟩
def nS(zs:List Int):Int:=if zs.all iZ&&zs.all (· !=0)&&decide (aV zs<=1099511627776)then aV zs else 0
def pJ(zs:List Int):Int:=if zs.all iZ then(if zs.all (· !=0)&& !decide (aV zs<=1099511627776)then 17 else 0)else 11
theorem Qk(A:Option Addr)(c:Nat)(zs:List Int)(w:World)(hs:zs.length<=1000000)(h:Rd w A zs):
  Calls Tryz.prog 75 #[.slice A zs.length c] w fun e w'=>e=.returned (.tuple #[.int .i64 (nS zs),.int .i64 (pJ zs)])/\Below w.heap.size w w':=by
 have c1:=Qj 77 iZ Qi (fun _ _=>rfl) A c zs w hs h;have c2:=Qj 131 (· !=0) aeZ (fun _ _=>rfl) A c zs w hs h;have B:=ae c1;have D:=ae c2;clear c1 c2;rcases h1:zs.all iZ with _|_
 ·have r:=ae h1;have l:Hid (nS zs=0):=ae (by simp[nS,h1]);have m:Hid (pJ zs=11):=ae (by simp[pJ,h1]);clear h1;go_enter Tryz.func75,Tryz.ntmps75
  go_wp2_with fail
  refine B.out.mono ?_;rintro e w' ⟨rfl,rfl⟩;rw[r.out]
  go_wp2_with fail
  go_ret2;exact⟨by rw[l.out,m.out];rfl,bq _ _⟩
 ·rcases h2:zs.all (· !=0)with _|_
  ·have r:=ae h1;have C:=ae h2;have l:Hid (nS zs=0):=ae (by simp[nS,h1,h2]);have m:Hid (pJ zs=0):=ae (by simp[pJ,h1,h2]);clear h1 h2;go_enter Tryz.func75,Tryz.ntmps75
   go_wp2_with fail
   refine B.out.mono ?_;rintro e w' ⟨rfl,rfl⟩;rw[r.out]
   go_wp2_with fail
   refine D.out.mono ?_;rintro e w' ⟨rfl,rfl⟩;rw[C.out]
   go_wp2_with fail
   go_ret2;exact⟨by rw[l.out,m.out];rfl,bq _ _⟩
  ·have r:=ae h1;have C:=ae h2;have u:Hid (∀z∈zs,1<=z):=by
    intro z G;have a:=fK.1 h1 z G;have b:=fK.1 h2 z G;simp[iZ]at a b;omega
   have I:=ae (ae3 A c zs w hs h u);by_cases j:aV zs<=1099511627776
   ·have l:Hid (nS zs=aV zs):=ae (by simp[nS,h1,h2,j]);have m:Hid (pJ zs=0):=ae (by simp[pJ,h1,h2,j]);have E:Hid (decide (aV zs<=1099511627776)=true):=ae (by simpa using j);have F:=ae j;clear h1 h2 j;go_enter Tryz.func75,Tryz.ntmps75
    go_wp2_with fail
    refine B.out.mono ?_;rintro e w' ⟨rfl,rfl⟩;rw[r.out]
    go_wp2_with fail
    refine D.out.mono ?_;rintro e w' ⟨rfl,rfl⟩;rw[C.out]
    go_wp2_with fail
    refine I.out.mono ?_;rintro e w' ⟨rfl,p,rfl,hp⟩;have J:=ae (hp F.out);clear hp;rw[E.out]
    go_wp2_with fail
    go_ret2;exact⟨by rw[l.out,m.out,<-J.out];rfl,(bq _ _).alloc (az _) _⟩
   ·have y:1099511627776<aV zs:=om;have l:Hid (nS zs=0):=ae (by simp[nS,h1,h2,j]);have m:Hid (pJ zs=17):=ae (by simp[pJ,h1,h2,y]);have E:Hid (decide (aV zs<=1099511627776)=false):=ae (by simpa using j);clear h1 h2 j y;go_enter Tryz.func75,Tryz.ntmps75
    go_wp2_with fail
    refine B.out.mono ?_;rintro e w' ⟨rfl,rfl⟩;rw[r.out]
    go_wp2_with fail
    refine D.out.mono ?_;rintro e w' ⟨rfl,rfl⟩;rw[C.out]
    go_wp2_with fail
    refine I.out.mono ?_;rintro e w' ⟨rfl,p,rfl,hp⟩;clear hp;rw[E.out]
    go_wp2_with fail
    go_ret2;exact⟨by rw[l.out,m.out];rfl,(bq _ _).alloc (az _) _⟩
theorem Xc{zs:List Int}(h:jH zs=true)(e:zs.length<=4):nS zs=aV zs/\pJ zs=0:=by
 have hb:=Qf zs h e;have j:zs.all iZ=true:=fK.2 fun z b=>by
  have:=zV h b;simp[iZ];omega
 have l:zs.all (· !=0)=true:=fK.2 fun z b=>by
  have:=zV h b;simp;omega
 simp[nS,pJ,j,l,hb.2]
end
section
def xk(w:World)(v:Value)(e:Ending)(w':World):Prop:=e=.returned v/\Below w.heap.size w w'
theorem ae4(A B:Option Addr)(c d:Nat)(xs ys:List Int)(w:World)(hs:xs.length<=1000000)(G:ys.length<=1000000)(h:Rd w A xs)(I:Rd w B ys):
  Calls Tryz.prog 118 #[.slice A xs.length c,.slice B ys.length d] w (Qh w (decide (xs=ys))):=by
 by_cases r:xs.length=ys.length
 ·have J:((xs.length:Int) !=(ys.length:Int))=false:=by rw[r];simp
  have z:=ae r;clear r;go_enter Tryz.func118,Tryz.ntmps118
  go_wp2
  go_loopw [13] (fun i wr=>∃k n:Nat,k<=xs.length/\i=.int .i64 k/\wr=w.drewN n/\xs.take k=ys.take k) (fun i _=>xs.length-(intOf i).toNat)
  case atStart=>exact⟨0,0,aS _,rfl,rfl,rfl⟩
  case round=>
   obtain⟨k,n,O,rfl,rfl,ht⟩:=hrel;have C:=ae ht;clear ht;by_cases j:k<xs.length
   ·obtain⟨b,off,x,rfl,hb,P,D⟩:=h.get j;have l:k<ys.length:=by rw[<-z.out];exact j
    obtain⟨b',E,y,rfl,K,L,F⟩:=I.get l;by_cases e:x=y
    ·have m:(x !=y)=false:=by simp[e]
     have M:=ae e;clear e
     go_wp2
     go_quiet (fail)
     go_wp2
     go_roundw
     case rel=>exact⟨k+1,_,om,by go_num,rfl,by rw[take_at D.out,take_at F.out,C.out,M.out]⟩
     case measure=>simp[intOf];omega
    ·have m:(x !=y)=true:=by simp[e]
     have u:Hid (decide (xs=ys)=false):=nC (aeX D.out F.out e);clear e
     go_wp2
     go_quiet (fail)
     go_wp2
     go_ret;exact⟨jD (by rw[u.out]),_,World.drewN_drewN _ _ _⟩
   ·have N:Hid (decide (xs=ys)=true):=l8 (aeY z.out C.out j)
    go_wp2
    go_ret;exact⟨jD (by rw[N.out]),_,rfl⟩
 ·have m:((xs.length:Int) !=(ys.length:Int))=true:=by simp;omega
  have u:Hid (decide (xs=ys)=false):=by
   refine nC ?_;rintro rfl;exact r rfl
  go_enter Tryz.func118,Tryz.ntmps118
  go_wp2
  go_ret;exact⟨jD (by rw[u.out]),0,rfl⟩
theorem Ql(A B:Option Addr)(c d:Nat)(xs ys:List Int)(w:World)(hs:xs.length<=1000000)(b:ys.length<=1000000)(h:Rd w A xs)(j:Rd w B ys):
  Calls Tryz.prog 70 #[.slice A xs.length c,.slice B ys.length d] w (Qh w (decide (xs=ys))):=by
 go_enter Tryz.func70,Tryz.ntmps70
 go_wp2_with fail
 refine(ae4 A B c d xs ys w hs b h j).mono ?_;rintro e w' ⟨rfl,n,rfl⟩
 go_wp2_with fail
 go_ret;exact⟨rfl,n,rfl⟩
theorem nT(A:Option Addr)(c:Nat)(zs:List Int)(w:World)(hs:zs.length<=1000000)(h:Rd w A zs):
  Calls Tryz.prog 119 #[.slice A zs.length c] w (xk w (.bool (aU zs))):=by
 by_cases r:1<=zs.length/\zs.length<=4
 ·obtain⟨r,D⟩:=r;go_enter Tryz.func119,Tryz.ntmps119
  go_wp2_with fail
  go_loop [17] (fun i=>∃k:Nat,k<=zs.length/\i=.int .i64 k/\jH (zs.take k)=true) (fun i=>zs.length-(intOf i).toNat)
  case atStart=>exact⟨0,aS _,rfl,rfl⟩
  case round=>
   obtain⟨k,I,rfl,l⟩:=hrel;have j:=ae l;clear l;by_cases u:k<zs.length
   ·obtain⟨b,off,z,rfl,hb,J,E⟩:=h.get u;by_cases m:1<=z/\z<=1024
    ·obtain⟨y,B⟩:=m
     go_wp2_with fail
     go_round
     case rel=>exact⟨k+1,om,by go_num,by rw[take_at E.out,aeN,j.out];simp[y,B]⟩
     case measure=>simp[intOf];omega
    ·have C:=ae (aeQ (aeP E.out m))
     go_wp2_with fail
     all_goals first|(go_ret;exact⟨jD (by rw[C.out]),bq _ _⟩)|omega
   ·have e:zs.take k=zs:=dB om;rw[e]at j;have G:=ae (aeS r D j.out);have F:=ae (Xc j.out D);clear e
    go_wp2_with fail
    refine(Qk A c zs w hs h).mono ?_;rintro e w' ⟨rfl,hb⟩;rw[F.out.1,F.out.2]
    go_wp2_with fail
    go_ret;exact⟨jD (by rw[G.out]),hb⟩
 ·have C:=ae (aeR r);go_enter Tryz.func119,Tryz.ntmps119
  go_wp2_with fail
  all_goals first|(go_ret;exact⟨jD (by rw[C.out]),bq _ _⟩)|omega
theorem Mc(A:Option Addr)(c:Nat)(zs:List Int)(w:World)(hs:zs.length<=1000000)(h:Rd w A zs):
  Calls Tryz.prog 73 #[.slice A zs.length c] w (xk w (.tuple #[.int .i64 (bJ zs),.int .i64 (eT zs)])):=by
 rcases hr:aU zs with _|_
 ·have b:Hid (bJ zs=0):=ae (by simp[bJ,hr]);have j:Hid (eT zs=20):=ae (by simp[eT,hr]);have l:=ae hr;clear hr;go_enter Tryz.func73,Tryz.ntmps73
  go_wp2_with fail
  refine(nT A c zs w hs h).mono ?_;rintro e w' ⟨rfl,hb⟩;rw[l.out]
  go_wp2_with fail
  go_ret2;exact⟨by rw[b.out,j.out];rfl,hb⟩
 ·have b:Hid (bJ zs=aV zs):=ae (by simp[bJ,hr]);have j:Hid (eT zs=0):=ae (by simp[eT,hr]);have l:=ae hr;have r:=ae (Xc ((j5 zs).1 hr).2.2.1 ((j5 zs).1 hr).2.1);clear hr;go_enter Tryz.func73,Tryz.ntmps73
  go_wp2_with fail
  refine(nT A c zs w hs h).mono ?_;rintro e u ⟨rfl,hb⟩;rw[l.out]
  go_wp2_with fail
  refine(Qk A c zs u hs (h.below hb)).mono ?_;rintro e y ⟨rfl,m⟩;rw[r.out.1,r.out.2]
  go_wp2_with fail
  go_ret2;exact⟨by rw[b.out,j.out];rfl,hb.trans (m.mono hb.size)⟩
theorem Fs(A:Option Addr)(c:Nat)(zs:List Int)(w:World)(hs:zs.length<=1000000)(h:Rd w A zs):
  Calls Tryz.prog 103 #[.slice A zs.length c] w (aex w 3 zs):=by
 have b:=fun W=>run_make_row' (P:=Tryz.prog) 25 3 (.int .i64 0) 8 Tryz.underlying25 aj rfl .i64 .i64 zs.length om om W;have e:=fun j=>Wq (P:=Tryz.prog) 25 25 j 3 3 Tryz.underlying25 aj zs A c w h;go_enter Tryz.func103,Tryz.ntmps103
 go_wp2
 go_ret;exact⟨w.heap.size,rfl,az _,Own.new _ _ _,(bq _ _).alloc (az _) _⟩
end
section
def sN(a b c:Int):Bool:=decide (1<=a)&&decide (a<=1024)&&decide (1<=b)&&decide (b<=1024)&&decide (1<=c)&&decide (c<=1024)&&decide (b<=a)
def sQ(a b c:Int):Int:=if sN a b c then 1+(a-b)/c else 0
def mI(a b c:Int):Int:=if sN a b c then 0 else 11
theorem Xd(a b c:Int)(w:World):
  Calls Tryz.prog 190 #[a,b,c] w fun e w'=>e=.returned (.tuple #[.int .i64 (sQ a b c),.int .i64 (mI a b c)])/\w=w':=by
 have u:∀w,(Instr.index 267 (.agg #[a,b,c]) (.int .i64 0)).run Tryz.prog w=.ok (.int .i64 a) w:=fun _=>aj;have i1:∀w,(Instr.index 267 (.agg #[a,b,c]) (.int .i64 1)).run Tryz.prog w=.ok (.int .i64 b) w:=fun _=>aj;have i2:∀w,(Instr.index 267 (.agg #[a,b,c]) (.int .i64 2)).run Tryz.prog w=.ok (.int .i64 c) w:=fun _=>aj;by_cases h:sN a b c=true
 ·have j:Hid (sQ a b c=1+(a-b)/c):=ae (by simp[sQ,h]);have l:Hid (mI a b c=0):=ae (by simp[mI,h]);simp only[sN,dm,dU,Ic]at h;obtain⟨y,z,B,C,D,E,F⟩:=h;have m:0<=(a-b)/c:=yE om om;have r:(a-b)/c<=1024:=P6 (Int.ediv_le_self _ om) om;go_enter Tryz.func190,Tryz.ntmps190
  go_wp2
  refine Dc 4 ?_
  iterate 4 (rw[vR];go_wp2)
  go_ret2;exact⟨by rw[j.out,l.out];rfl,rfl⟩
 ·have j:Hid (sQ a b c=0):=ae (by simp[sQ,h]);have l:Hid (mI a b c=11):=ae (by simp[mI,h]);simp only[sN,dm,dU,Ic]at h;by_cases G:1<=a/\a<=1024
  ·by_cases hb:1<=b/\b<=1024
   ·by_cases I:1<=c/\c<=1024
    ·have hd:¬b<=a:=om;clear h;go_enter Tryz.func190,Tryz.ntmps190
     go_wp2
     refine Dc 4 ?_
     iterate 4 (rw[vR];go_wp2)
     go_ret2;exact⟨by rw[j.out,l.out];rfl,rfl⟩
    ·clear h;go_enter Tryz.func190,Tryz.ntmps190
     go_wp2
     refine Dc 3 ?_;rw[vR];go_wp2;rw[vR];go_wp2;rw[vR];go_wp2
     all_goals first|omega|(go_ret2;exact⟨by rw[j.out,l.out];rfl,rfl⟩)
   ·clear h;go_enter Tryz.func190,Tryz.ntmps190
    go_wp2
    refine Dc 2 ?_;rw[vR];go_wp2;rw[vR];go_wp2
    all_goals first|omega|(go_ret2;exact⟨by rw[j.out,l.out];rfl,rfl⟩)
  ·clear h;go_enter Tryz.func190,Tryz.ntmps190
   go_wp2
   refine Dc 1 ?_;rw[vR];go_wp2
   all_goals first|omega|(go_ret2;exact⟨by rw[j.out,l.out];rfl,rfl⟩)
end
section
def nU(w:World)(zs:List Int)(E:Int)(e:Ending)(w':World):Prop:=
 ∃A c,e=.returned (.tuple #[.slice A zs.length c,E])/\Rd w' A zs/\Below w.heap.size w w'/\(∀ad,A=some ad->w.heap.size<=ad.block)/\zs.length<=c
theorem nU.none_{w w':World}{zs:List Int}{E:Int}(b:zs=[])(hb:Below w.heap.size w w')(e:Ending)(j:e=.returned (.tuple #[.slice none 0 0,E])):nU w zs E e w':=by
 subst b;exact⟨none,0,j,Rd.nil _ _,hb,(fun _ h=>by cases h),az _⟩
theorem nU.own{w w':World}{g T:Nat}{zs:List Int}(hg:w.heap.size<=g)(b:Own w' g T zs)(hb:Below w.heap.size w w')(e:Ending)(j:e=.returned (.tuple #[.slice g zs.length zs.length,(0:Int)])):nU w zs 0 e w':=
 ⟨_,_,j,b.rd,hb,(fun _ h=>by injection h with h;subst h;exact hg),az _⟩
def sV(zs:List Int)(side a b:Int):Int:=
 if aU zs then(if decide (0<=side)&&decide (side<zs.length)&&decide (0<=a)&&decide (b<=zs.getD side.toNat 0)&&decide (a<b)then 0 else 11)else 20
def cutV(zs:List Int)(side a b:Int):List Int:=if sV zs side a b=0 then zs.set side.toNat (b-a)else[]
theorem ae5(A:Option Addr)(c:Nat)(zs:List Int)(side a b:Int)(w:World)(hs:zs.length<=1000000)(h:Rd w A zs):
  Calls Tryz.prog 129 #[.slice A zs.length c,side,a,b] w (nU w (cutV zs side a b) (sV zs side a b)):=by
 rcases hr:aU zs with _|_
 ·have j:Hid (sV zs side a b=20):=ae (by simp[sV,hr]);have r:Hid (cutV zs side a b=[]):=ae (by simp[cutV,j.out]);have y:=ae hr;clear hr;go_enter Tryz.func129,Tryz.ntmps129
  go_wp2_with fail
  refine(nT A c zs w hs h).mono ?_;rintro e C ⟨rfl,hb⟩;rw[y.out]
  go_wp2_with fail
  go_ret2;exact nU.none_ r.out hb _ (by rw[j.out];rfl)
 ·have y:=ae hr;obtain⟨r1,T,l,J⟩:=(j5 zs).1 hr;by_cases E:0<=side/\side<zs.length
  ·obtain⟨n,rfl⟩:=eF E.1;have K:n<zs.length:=om;obtain⟨U,off,z,rfl,L,V,u⟩:=h.get K;obtain⟨M,N⟩:=Dk l u.out;by_cases F:0<=a/\b<=z/\a<b
   ·obtain⟨X,O,P⟩:=F;have j:Hid (sV zs n a b=0):=ae (by
     rw[sV,if_pos hr,if_pos];simp only[dm,dU,dD];simp[List.getD,u.out];omega)
    have r:Hid (cutV zs n a b=zs.set n (b-a)):=ae (by simp[cutV,j.out]);clear hr l;go_enter Tryz.func129,Tryz.ntmps129
    go_wp2_with fail
    refine(nT _ c zs w hs h).mono ?_;rintro e C ⟨rfl,hb⟩;rw[y.out];have G:=(h.below hb).all u.out
    go_wp2_with fail
    refine(Fs _ c zs C hs (h.below hb)).mono ?_;rintro e Y ⟨g,rfl,hg,D,I⟩;have Q:=D.cell u.out;have R:=D.frozen n;have S:=ae (D.aF n (b-a));clear D;have m:(zs.set n (b-a)).length=zs.length:=au;have B:=ae m;clear m
    go_wp2_with fail
    go_ret2;rw[r.out,j.out];exact nU.own (aZ hb.size hg) S.out ((hb.trans (I.mono hb.size)).setCell (aZ hb.size hg) _) _ (by rw[B.out];rfl)
   ·have j:Hid (sV zs n a b=11):=ae (by
     rw[sV,if_pos hr,if_neg];simp only[dm,dU,dD];simp[List.getD,u.out];omega)
    have r:Hid (cutV zs n a b=[]):=ae (by simp[cutV,j.out]);clear hr l;go_enter Tryz.func129,Tryz.ntmps129
    go_wp2_with fail
    refine(nT _ c zs w hs h).mono ?_;rintro e C ⟨rfl,hb⟩;rw[y.out];have G:=(h.below hb).all u.out
    go_wp2_with fail
    all_goals first|omega|(go_ret2;exact nU.none_ r.out hb _ (by rw[j.out];rfl))
  ·have j:Hid (sV zs side a b=11):=ae (by
    rw[sV,if_pos hr,if_neg];simp only[dm,dU];omega)
   have r:Hid (cutV zs side a b=[]):=ae (by simp[cutV,j.out]);clear hr l;go_enter Tryz.func129,Tryz.ntmps129
   go_wp2_with fail
   refine(nT _ c zs w hs h).mono ?_;rintro e C ⟨rfl,hb⟩;rw[y.out]
   go_wp2_with fail
   all_goals first|omega|(go_ret2;exact nU.none_ r.out hb _ (by rw[j.out];rfl))
end
section
def BF(zs ts:List Int)(n:Nat):Bool:=decide (zs.take n=ts.take n)&&decide (zs.drop (n+1)=ts.drop (n+1))
def joinL(zs ts:List Int)(n:Nat):List Int:=zs.set n (zs.getD n 0+ts.getD n 0)
def lL(zs ts:List Int)(side:Int):Int:=
 if aU zs&&aU ts&&decide (zs.length=ts.length)then
  (if decide (0<=side)&&decide (side<zs.length)then(if BF zs ts side.toNat&&aU (joinL zs ts side.toNat)then 0 else 20)else 11)
 else 20
def ma(zs ts:List Int)(side:Int):List Int:=if lL zs ts side=0 then joinL zs ts side.toNat else[]
def vT(zs ts:List Int)(n k:Nat):List Int:=if n<k then joinL zs ts n else zs
def Xe(zs ts:List Int)(n k:Nat):Prop:=∀j z t,j<k->j≠n->zs[j]?=some z->ts[j]?=some t->z=t
theorem ae6{zs ts:List Int}{n k:Nat}(u:zs.length=ts.length)(h:Xe zs ts n k)(y:zs.length<=k):BF zs ts n=true:=by
 have key:∀j,j≠n->zs[j]?=ts[j]?:=by
  intro j r;by_cases b:j<zs.length
  ·have e:=aW b;have m:=aW (l:=ts) (i:=j) om;rw[e,m,h j _ _ om r e m]
  ·rw[mE om,mE om]
 simp only[BF,dm,dU];constructor
 ·apply pE;intro j;rw[l7,l7]
  split
  ·exact key j om
  ·rfl
 ·apply pE;intro j;rw[lD,lD];exact key _ om
theorem ae7{zs ts:List Int}{n j:Nat}{z t:Int}(m:j≠n)(e:zs[j]?=some z)(ht:ts[j]?=some t)(h:z≠t):BF zs ts n=false:=by
 rcases hb:BF zs ts n with _|_
 ·rfl
 ·simp only[BF,dm,dU]at hb;exfalso;rcases Hg m with b|r
  ·have:=eD (fun l=>l[j]?) hb.1;simp only[l7,if_pos b,e,ht]at this;injection this with this;exact h this
  ·have:=eD (fun l=>l[j-(n+1)]?) hb.2;simp only[lD]at this;rw[show n+1+(j-(n+1))=j from om,e,ht]at this;injection this with this;exact h this
theorem ae8{zs ts:List Int}{n k:Nat}{z:Int}(b:k<=n)(h:zs[n]?=some z):(vT zs ts n k)[n]?=some z:=by rw[vT,if_neg (by omega)];exact h
theorem ae9{zs ts:List Int}{n:Nat}{z t:Int}(b:zs[n]?=some z)(ht:ts[n]?=some t):(vT zs ts n n).set n (z+t)=vT zs ts n (n+1):=by
 rw[vT,if_neg om,vT,if_pos om,joinL];simp[List.getD,b,ht]
theorem afa{zs ts:List Int}{n k:Nat}(h:k≠n):vT zs ts n (k+1)=vT zs ts n k:=by
 unfold vT;by_cases b:n<k
 ·rw[if_pos b,if_pos om]
 ·rw[if_neg b,if_neg om]
theorem afb(A B:Option Addr)(c d:Nat)(zs ts:List Int)(side:Int)(w:World)(hs:zs.length<=1000000)(L:ts.length<=1000000)(h:Rd w A zs)(h':Rd w B ts):
  Calls Tryz.prog 191 #[.slice A zs.length c,.slice B ts.length d,side] w (nU w (ma zs ts side) (lL zs ts side)):=by
 rcases hr:aU zs with _|_
 ·have G:Hid (lL zs ts side=20):=ae (by simp[lL,hr]);have Q:Hid (ma zs ts side=[]):=ae (by simp[ma,G.out]);have R:=ae hr;clear hr;go_enter Tryz.func191,Tryz.ntmps191
  go_wp2_with fail
  refine(nT A c zs w hs h).mono ?_;rintro e N ⟨rfl,hb⟩;rw[R.out]
  go_wp2_with fail
  go_ret2;exact nU.none_ Q.out hb _ (by rw[G.out];rfl)
 rcases hr':aU ts with _|_
 ·have G:Hid (lL zs ts side=20):=ae (by simp[lL,hr']);have Q:Hid (ma zs ts side=[]):=ae (by simp[ma,G.out]);have R:=ae hr;have I:=ae hr';clear hr hr';go_enter Tryz.func191,Tryz.ntmps191
  go_wp2_with fail
  refine(nT A c zs w hs h).mono ?_;rintro e N ⟨rfl,hb⟩;rw[R.out]
  go_wp2_with fail
  refine(nT B d ts N L (h'.below hb)).mono ?_;rintro e w2 ⟨rfl,C⟩;rw[I.out]
  go_wp2_with fail
  go_ret2;exact nU.none_ Q.out (hb.trans (C.mono hb.size)) _ (by rw[G.out];rfl)
 have R:=ae hr;have I:=ae hr';by_cases O:zs.length=ts.length
 ·have hne:((zs.length:Int) !=(ts.length:Int))=false:=by rw[O];simp
  have HL:=ae O;by_cases hsd:0<=side/\side<zs.length
  ·obtain⟨n,rfl⟩:=eF hsd.1;have hn:n<zs.length:=om;have HJ0:Hid (BF zs ts n=false->lL zs ts n=20):=ae (fun S=>by simp[lL,hr,hr',O,S];omega);have HJ1:Hid (BF zs ts n=true->lL zs ts n=if aU (joinL zs ts n)then 0 else 20):=ae (fun S=>by simp[lL,hr,hr',O,S];omega);have Xf:Hid (lL zs ts n=20->ma zs ts n=[]):=ae (fun S=>by simp[ma,S]);have HJW:Hid (lL zs ts n=0->ma zs ts n=joinL zs ts n):=ae (fun S=>by simp[ma,S]);obtain⟨r1,r4,Xg,rpr⟩:=(j5 zs).1 hr;obtain⟨r1',r4',P,as2⟩:=(j5 ts).1 hr';have RIN:=ae Xg;have afg:=ae P;clear hr hr' O Xg P;go_enter Tryz.func191,Tryz.ntmps191
   go_wp2_with fail
   refine(nT A c zs w hs h).mono ?_;rintro e N ⟨rfl,hb⟩;rw[R.out]
   go_wp2_with fail
   refine(nT B d ts N L (h'.below hb)).mono ?_;rintro e w2 ⟨rfl,C⟩;rw[I.out];have r:=hb.trans (C.mono hb.size)
   go_wp2_with fail
   refine(Fs A c zs w2 hs (h.below r)).mono ?_;rintro e w3 ⟨g,rfl,hg,ho,hb3⟩;have afh:=r.trans (hb3.mono r.size);have T:w.heap.size<=g:=aZ r.size hg;have HO:=ae ho;clear ho hb C hb3
   go_wp2_with fail
   go_loopw [37] (fun i wr=>∃k:Nat,k<=zs.length/\i=.int .i64 k/\Own wr g 3 (vT zs ts n k)/\Below w.heap.size w wr/\Xe zs ts n k) (fun i _=>zs.length-(intOf i).toNat)
   case atStart=>exact⟨0,aS _,rfl,HO.out,afh,fun j z t K=>absurd K om⟩
   case round=>
    obtain⟨k,hk,rfl,l,m,hsm⟩:=hrel;have U:=ae hsm;clear hsm;by_cases V:k<zs.length
    ·obtain⟨b,off,z,rfl,hbb,hc,hz⟩:=(h.below m).get V;obtain⟨b',off',t,rfl,as3,hc',ht⟩:=(h'.below m).get (k:=k) (by rw[<-HL.out];exact V);have hlt':k<ts.length:=by rw[<-HL.out];exact V
     obtain⟨hz1,hz2⟩:=Dk RIN.out hz.out;obtain⟨ht1,ht2⟩:=Dk afg.out ht.out;by_cases E:k=n
     ·subst E;have hcg:=l.cell (ae8 (ts:=ts) (az k) hz.out);have hfg:=l.frozen k;have D:=ae (l.aF k (z+t));rw[ae9 hz.out ht.out]at D;clear l;have hkk:((k:Int)==(k:Int))=true:=by simp
      go_wp2_with fail
      go_region
      all_goals go_wp2_with fail
      all_goals
       go_roundw
       case rel=>exact⟨k+1,om,by go_num,by first|exact D.out|exact D.out.drew,by first|exact(m.drew).setCell T _|exact(m.setCell T _).drew,fun j y u K X Y hu=>U.out j y u om X Y hu⟩
       case measure=>simp[intOf];omega
     ·have hkk:((k:Int)==(n:Int))=false:=by simp;omega
      have D:=ae l;rw[<-afa E]at D;clear l;by_cases F:z=t
      ·have afi:(z !=t)=false:=by simp[F]
       have HZT:=ae F;have HKN:=ae E;clear F E
       go_wp2_with fail
       go_quiet (fail)
       go_wp2_with fail
       go_roundw
       case rel=>
        refine⟨k+1,om,by go_num,D.out.drewN _,below_drewN m _,fun j y u K X Y hu=>?_⟩;by_cases hjk:j<k
        ·exact U.out j y u hjk X Y hu
        ·obtain rfl:j=k:=om;rw[hz.out]at Y;rw[ht.out]at hu;injection Y with Y;injection hu with hu
         rw[<-Y,<-hu,HZT.out]
       case measure=>simp[intOf];omega
      ·have afi:(z !=t)=true:=by simp[F]
       have HF:=ae (HJ0.out (ae7 E hz.out ht.out F));clear F E
       go_wp2_with fail
       go_quiet (fail)
       go_wp2_with fail
       go_ret2;exact nU.none_ (Xf.out HF.out) (below_drewN m _) _ (by rw[HF.out];rfl)
    ·have Z:=ae (HJ1.out (ae6 HL.out U.out om));have e:vT zs ts n k=joinL zs ts n:=by rw[vT,if_pos om]
     rw[e]at l;have D:=ae l;have J:(joinL zs ts n).length=zs.length:=by simp[joinL]
     have CR:=ae (nT (some ⟨g,0,none⟩) (joinL zs ts n).length (joinL zs ts n) wr om l.rd);rw[J]at CR;have HLEN:=ae J;clear l e J;rcases K:aU (joinL zs ts n)with _|_
     ·have HJ:=ae K;rw[K]at Z;clear K
      go_wp2_with fail
      refine CR.out.mono ?_;rintro e w4 ⟨rfl,M⟩;rw[HJ.out]
      go_wp2_with fail
      go_ret2;exact nU.none_ (Xf.out Z.out) (m.trans (M.mono m.size)) _ (by rw[Z.out];rfl)
     ·have HJ:=ae K;rw[K]at Z;clear K
      go_wp2_with fail
      refine CR.out.mono ?_;rintro e w4 ⟨rfl,M⟩;rw[HJ.out]
      go_wp2_with fail
      go_ret2;rw[HJW.out Z.out,Z.out];exact nU.own T (D.out.keep M) (m.trans (M.mono m.size)) _ (by rw[HLEN.out];rfl)
  ·have G:Hid (lL zs ts side=11):=ae (by
    rw[lL,if_pos (by simp[hr,hr',O]),if_neg];simp only[dm,dU];omega)
   have Q:Hid (ma zs ts side=[]):=ae (by simp[ma,G.out]);clear hr hr' O;go_enter Tryz.func191,Tryz.ntmps191
   go_wp2_with fail
   refine(nT A c zs w hs h).mono ?_;rintro e N ⟨rfl,hb⟩;rw[R.out]
   go_wp2_with fail
   refine(nT B d ts N L (h'.below hb)).mono ?_;rintro e w2 ⟨rfl,C⟩;rw[I.out];have r:=hb.trans (C.mono hb.size)
   go_wp2_with fail
   all_goals first|omega|(go_ret2;exact nU.none_ Q.out r _ (by rw[G.out];rfl))
 ·have hne:((zs.length:Int) !=(ts.length:Int))=true:=by simp;omega
  have G:Hid (lL zs ts side=20):=ae (by simp[lL,O]);have Q:Hid (ma zs ts side=[]):=ae (by simp[ma,G.out]);clear hr hr';go_enter Tryz.func191,Tryz.ntmps191
  go_wp2_with fail
  refine(nT A c zs w hs h).mono ?_;rintro e N ⟨rfl,hb⟩;rw[R.out]
  go_wp2_with fail
  refine(nT B d ts N L (h'.below hb)).mono ?_;rintro e w2 ⟨rfl,C⟩;rw[I.out];have r:=hb.trans (C.mono hb.size)
  go_wp2_with fail
  go_ret2;exact nU.none_ Q.out r _ (by rw[G.out];rfl)
end
section
def bH(zs xs:List Int):Bool:=aU zs&&decide ((xs.length:Int)=aV zs)
theorem jI(zs xs:List Int):bH zs xs=true↔aU zs=true/\(xs.length:Int)=aV zs:=by simp[bH]
theorem aG.sZ{w:World}{B g:Nat}{T:TypeId}{zs:List Int}(h:Own w g T zs)(b:B<=g)(e:zs.length<=1000000000):aG w B T (some ⟨g,0,none⟩) zs.length zs:=by
 refine⟨au,.inr ⟨g,zs.length,ints zs,rfl,b,h,az _,by unfold maxLen;omega,by simp[aew],?_⟩⟩;rw[dB (by simp[ints])];simp[ints]
def afk(w:World)(zs xs:List Int)(e:Ending)(w':World):Prop:=
 ∃g b,e=.returned (.agg #[.slice (some ⟨g,0,none⟩) zs.length zs.length,.slice (some ⟨b,0,none⟩) xs.length xs.length])/\w.heap.size<=g/\w.heap.size<=b/\Own w' g 3 zs/\Own w' b 65 xs/\Below w.heap.size w w'
def zX(w:World)(zs xs:List Int)(E:Int)(e:Ending)(w':World):Prop:=
 ∃A c B d,e=.returned (.tuple #[.agg #[.slice A zs.length c,.slice B xs.length d],E])/\aG w' w.heap.size 3 A c zs/\aG w' w.heap.size 65 B d xs/\Below w.heap.size w w'
theorem fC{w:World}{g:Nat}{T:TypeId}{v0 v1:Value}(h:aD w g T #[v0,v1]):w.cell? ⟨g,0,none⟩=some v0/\w.cell? ⟨g,1,none⟩=some v1:=⟨h.cell 0,h.cell 1⟩
theorem aD.set2{w:World}{g:Nat}{T:TypeId}{a b:Value}(h:aD w g T #[a,b])(v0 v1:Value):aD ((w.setCell ⟨g,0,none⟩ v0).setCell ⟨g,1,none⟩ v1) g T #[v0,v1]:=(h.aF 0 v0).aF 1 v1
theorem Own.dY{w:World}{g p:Nat}{T:TypeId}{zs:List Int}(h:Own w g T zs)(hp:g≠p)(v0 v1:Value):Own ((w.setCell ⟨p,0,none⟩ v0).setCell ⟨p,1,none⟩ v1) g T zs:=
 (h.far (p:=⟨p,0,none⟩) hp v0).far (p:=⟨p,1,none⟩) hp v1
theorem gW{w w':World}{n p:Nat}(h:Below n w w')(hp:n<=p)(v0 v1:Value):Below n w ((w'.setCell ⟨p,0,none⟩ v0).setCell ⟨p,1,none⟩ v1):=
 (h.setCell (p:=⟨p,0,none⟩) hp v0).setCell (p:=⟨p,1,none⟩) hp v1
theorem Own.bP{w:World}{g j:Nat}{T T':TypeId}{zs:List Int}{cs:Array Value}(h:Own w g T zs)(b:aD w j T' cs)(e:T≠T'):g≠j:=by
 rintro rfl;unfold Own at h;unfold aD at b;rw[h]at b;injection b with b
 injection b with _ ht
 exact e ht
theorem aG.bP{w:World}{B c l:Nat}{T T':TypeId}{A:Option Addr}{zs:List Int}{cs:Array Value}(h:aG w B T A c zs)(b:aD w l T' cs)(j:T≠T'):∀ad,A=some ad->ad.block≠l:=by
 intro ad e;rcases h.form with⟨rfl,_,_⟩|⟨g,cur,rfl,m,hg,_⟩
 ·cases e
 ·injection e with e;subst e
  rintro rfl;unfold aD at b;dsimp only at b;rw[hg]at b;injection b with b
  injection b with _ ht
  exact j ht
theorem vU(A B:Option Addr)(c d:Nat)(zs xs:List Int)(w:World)(hs:zs.length<=1000000)(h:Rd w A zs):
  Calls Tryz.prog 69 #[.agg #[.slice A zs.length c,.slice B xs.length d]] w (xk w (.bool (bH zs xs))):=by
 have l:=(bq w.heap.size w).alloc (az _) (.cells #[.slice A zs.length c,.slice B xs.length d] 28);have k0:=aD.new w 28 #[.slice A zs.length c,.slice B xs.length d];have m:=h.alloc (.cells #[.slice A zs.length c,.slice B xs.length d] 28);rcases hr:aU zs with _|_
 ·have j:Hid (bH zs xs=false):=ae (by simp[bH,hr]);have b:Hid (bJ zs=0/\eT zs=20):=ae (by simp[bJ,eT,hr]);clear hr;go_enter Tryz.func69,Tryz.ntmps69
  go_wp2_with fail
  refine(Mc A c zs _ hs m).mono ?_;rintro e r ⟨rfl,hb⟩;rw[b.out.1,b.out.2]
  go_wp2_with fail
  go_ret;exact⟨jD j.out.symm,dS l hb⟩
 ·have b:Hid (bJ zs=aV zs/\eT zs=0):=ae (by simp[bJ,eT,hr]);have j:Hid (bH zs xs=((xs.length:Int)==aV zs)):=ae (by simp[bH,hr];exact H9.2 au);clear hr;go_enter Tryz.func69,Tryz.ntmps69
  go_wp2_with fail
  refine(Mc A c zs _ hs m).mono ?_;rintro e r ⟨rfl,hb⟩;rw[b.out.1,b.out.2];obtain⟨q0,u⟩:=fC (k0.keep hb)
  go_wp2_with fail
  go_ret;exact⟨jD j.out.symm,dS l hb⟩
theorem Dm(A B:Option Addr)(c d:Nat)(zs xs:List Int)(w:World)(hs:zs.length<=1000000)(I:xs.length<=1000000)(h:Rd w A zs)(u:Rd w B xs):
  Calls Tryz.prog 71 #[.agg #[.slice A zs.length c,.slice B xs.length d]] w (afk w zs xs):=by
 have l:=fun W=>run_make_row' (P:=Tryz.prog) 26 65 (.int .i64 0) 8 Tryz.underlying26 aj rfl .i64 .i64 xs.length om om W;rw[EW]at l;have j:=((bq w.heap.size w).alloc (az _) (.cells #[.slice A zs.length c,.slice B xs.length d] 28)).alloc au (.cells #[.slice none 0 0,.slice none 0 0] 28);have b:=fun y=>Wq (P:=Tryz.prog) 26 26 y 65 65 Tryz.underlying26 aj xs B d _ (u.below j);rw[EW]at b;simp only[aeH]at b;go_enter Tryz.func71,Tryz.ntmps71
 go_wp2_with fail
 refine(Fs A c zs _ hs (((h.below j)).alloc _)).mono ?_;rintro e J ⟨g,rfl,hg,r,hb⟩;have z:=dS (j.alloc j.size (.cells (ints xs) 65)) hb;have k1:=((aD.new' (w.alloc (.cells #[.slice A zs.length c,.slice B xs.length d] 28)) 28 #[.slice none 0 0,.slice none 0 0] (n:=w.heap.size+1) au).alloc (.cells (ints xs) 65)).keep hb;have k2:=(Own.new' ((w.alloc (.cells #[.slice A zs.length c,.slice B xs.length d] 28)).alloc (.cells #[.slice none 0 0,.slice none 0 0] 28)) 65 xs (n:=w.heap.size+1+1) au).keep hb;obtain⟨q0,m⟩:=fC k1;have K:=k1.frozen 0;have f1:=k1.frozen 1;simp at hg
 go_wp2_with fail
 have n1:=k2.bP k1 ah;have C:=r.bP k1 ah;have D:=k1.set2 (.slice g zs.length zs.length) (.slice (some ⟨w.heap.size+1+1,0,none⟩) xs.length xs.length);have E:=k2.dY n1 (.slice g zs.length zs.length) (.slice (some ⟨w.heap.size+1+1,0,none⟩) xs.length xs.length);have F:=r.dY C (.slice g zs.length zs.length) (.slice (some ⟨w.heap.size+1+1,0,none⟩) xs.length xs.length);have G:=gW z (fu _) (.slice g zs.length zs.length) (.slice (some ⟨w.heap.size+1+1,0,none⟩) xs.length xs.length);clear q0 m;obtain⟨q0,m⟩:=fC D;refine bM (v:=.agg #[.slice g zs.length zs.length,.slice (some ⟨w.heap.size+1+1,0,none⟩) xs.length xs.length]) (by simp[results,Tryz.results71,go_sem,q0,m]) rfl ?_;exact⟨g,_,rfl,om,om,F,E,G⟩
theorem zX.yes{w w':World}{g b:Nat}{zs xs:List Int}(hg:w.heap.size<=g)(j:w.heap.size<=b)(u:zs.length<=1000000)(y:xs.length<=1000000)(m:Own w' g 3 zs)(l:Own w' b 65 xs)(hb:Below w.heap.size w w')(e:Ending)
  (r:e=.returned (.tuple #[.agg #[.slice g zs.length zs.length,.slice b xs.length xs.length],(0:Int)])):zX w zs xs 0 e w':=
 ⟨_,_,_,_,r,aG.sZ m hg om,aG.sZ l j om,hb⟩
theorem afl(A B:Option Addr)(c d:Nat)(zs xs:List Int)(w:World)(hs:zs.length<=1000000)(z:xs.length<=1000000)(h:Rd w A zs)(E:Rd w B xs)(hr:Hid (bH zs xs=true)):
  Calls Tryz.prog 25 #[.slice A zs.length c,.slice B xs.length d] w (zX w zs xs 0):=by
 have C:=((bq w.heap.size w).alloc (az _) (.cells #[.slice none 0 0,.slice none 0 0] 28)).alloc au (.cells #[.slice A zs.length c,.slice B xs.length d] 28);have k0:=(aD.new w 28 #[.slice none 0 0,.slice none 0 0]).alloc (.cells #[.slice A zs.length c,.slice B xs.length d] 28);have b:=aD.new' (w.alloc (.cells #[.slice none 0 0,.slice none 0 0] 28)) 28 #[.slice A zs.length c,.slice B xs.length d] (n:=w.heap.size+1) au;go_enter Tryz.func25,Tryz.ntmps25
 go_wp2_with fail
 refine(vU A B c d zs xs _ hs (h.below C)).mono ?_;rintro e F ⟨rfl,hb⟩;rw[hr.out];have k1:=k0.keep hb;have u:=b.keep hb;have r:=dS C hb;obtain⟨G,p1⟩:=fC u;clear k0 b
 go_wp2_with fail
 refine(Dm A B c d zs xs F hs z (h.below r) (E.below r)).mono ?_;rintro e Q ⟨g,j,rfl,hg,I,D,l,m⟩;have k2:=k1.keep m;have J:=dS r m;obtain⟨q0,y⟩:=fC k2;have R:=k2.frozen 0;have f1:=k2.frozen 1;have n1:=D.bP k2 ah;have K:=l.bP k2 ah;have L:=r.size;clear k1 G p1
 go_wp2_with fail
 have M:=k2.set2 (.slice g zs.length zs.length) (.slice j xs.length xs.length);have N:=gW J (az _) (.slice g zs.length zs.length) (.slice j xs.length xs.length);have O:=D.dY n1 (.slice g zs.length zs.length) (.slice j xs.length xs.length);have P:=l.dY K (.slice g zs.length zs.length) (.slice j xs.length xs.length);clear q0 y;obtain⟨q0,y⟩:=fC M;refine bM (v:=.tuple #[.agg #[.slice g zs.length zs.length,.slice j xs.length xs.length],(0:Int)]) (by simp[results,Tryz.results25,go_sem,q0,y]) rfl ?_;exact zX.yes om om hs z O P N _ rfl
end
end Go.Proofs.YtmkjnlifimffkaaGreat
