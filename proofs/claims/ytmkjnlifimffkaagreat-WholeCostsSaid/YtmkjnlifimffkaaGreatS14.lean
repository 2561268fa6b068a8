/- Lemmas. No condition. -/
import Derived.Test.YtmkjnlifimffkaaGreatS13
namespace Go.Proofs.YtmkjnlifimffkaaGreat
open Go.RowKit
set_option linter.all false
set_option maxRecDepth 100000
set_option maxHeartbeats 16000000
theorem aiD{P:Program}(t:TypeId)(ht:P.underlying t=some (.slice (P.elem t)))(hs:(P.info? (P.elem t)).map (·.size)=some 1)(b off m d lo hi:Nat)(i j:Int)(r:i=(lo:Int))(u:j=(hi:Int))(y:lo<=hi)(z:hi<=m)(B:m<=d)(C:lo<d):
  ∀w,(Instr.slice t (.slice (some ⟨b,off,none⟩) m d) (some (.int .i64 i)) (some (.int .i64 j)) none).run P w=.ok (.slice (some ⟨b,off+lo,none⟩) (hi-lo) (d-lo)) w:=by
 subst r u;intro w;rw[BD w t _ m d ht .i64 .i64 lo hi om om om,DL hs];have e:d≠lo:=om;by_cases l:lo=0
 ·subst l;simp[Result.andThen,sliced,Addr.add,e]
 ·simp[Result.andThen,sliced,Addr.add,e,l]
section
variable{w:World}{A B:Option Addr}{n m c d b off:Nat}{zs xs:List Int}
theorem Sl.part(h:Sl w (some ⟨b,off,none⟩) m xs){F W:Nat}(hF:F+W<=m):Sl w (some ⟨b,off+F,none⟩) W ((xs.drop F).take W):=by
 refine⟨fun j z l=>?_,by have:=h.len;simp;omega⟩;rw[l7]at l
 split at l
 ·rw[lD]at l;obtain⟨b',r,e,hb,u⟩:=h.rd _ z l;injection e with e;injection e with y C;subst y;subst C
  exact⟨b,off+F,rfl,hb,by rw[C8];exact u⟩
 ·cases l
theorem M5{P Z N W S F:Nat}(hm:m<=65536)(hd:m<=d)(hF:Hid (P/N*Z+P%N*S=F))(hN:1<=N)(C:N<=1024)(hP:P<=65536)(J:1<=W)(j:F+W<=m):
  Calls Tryz.prog 174 #[.slice (some ⟨b,off,none⟩) m d,P,Z,N,W,S] w (aM w (.slice (some ⟨b,off+F,none⟩) W (d-F))):=by
 obtain⟨q,hq⟩:=lh (P/N);obtain⟨r,hr⟩:=lh (P%N);have e:=hF.out;rw[hq,hr]at e;obtain⟨x,l⟩:=lh (q*Z);obtain⟨y,u⟩:=lh (r*S);rw[l,u]at e;have D:q<=P:=hq▸H7 _ _;have E:x<=65536:=om;have G:y<=65536:=om;have m1:(P:Int)/(N:Int)=(q:Int):=by rw[<-PU,hq]
 have K:¬N=0:=om;have I:IntKind.i64.wrap (q:Int)=(q:Int):=BB _ om;have L:(P:Int).tmod (N:Int)=(r:Int):=by rw[Int.tmod_eq_emod_of_nonneg (by omega),<-Int.natCast_emod,hr]
 have M:IntKind.i64.wrap ((q:Int)*(Z:Int))=(x:Int):=by rw[<-yx,l];exact BB _ (by omega)
 have m4:IntKind.i64.wrap ((r:Int)*(S:Int))=(y:Int):=by rw[<-yx,u];exact BB _ (by omega)
 have O:IntKind.i64.wrap ((x:Int)+(y:Int))=(F:Int):=by rw[<-mF,e];exact BB _ (by omega)
 have z:=aiD (P:=Tryz.prog) 26 aj aj b off m d F (F+W) (F:Int) ((F:Int)+(W:Int)) rfl om om j hd om;rw[Wu]at z;clear hq hr l u e;go_enter Tryz.func174,Tryz.ntmps174
 go_wp2_with fail
 refine bZ aj (fun Q _=>?_);refine ag 0 14 ?_;refine ag 1 15 ?_;refine ag 2 16 ?_;refine ag 3 17 ?_;refine ag 4 18 ?_;refine ag 5 19 ?_;refine ag 6 20 ?_;refine ag 7 21 ?_;refine ag 8 22 ?_;refine ag 9 23 ?_;refine ag 10 24 ?_;refine ag 11 13 ?_;refine aO ?_
 go_wp2_with fail
 go_ret;exact⟨rfl,ai _ _⟩
theorem M6[a:Sl w A n zs](e:n<=1000000):Calls Tryz.prog 119 #[.slice A n c] w (aM w (.bool (aU zs))):=by
 obtain⟨a,rfl⟩:=a;exact(nT A c zs w e a).mono fun _ _ ⟨j,hb⟩=>⟨j,⟨hb⟩⟩
theorem Y1{a b c:Int}:Calls Tryz.prog 190 #[a,b,c] w (aM w (.tuple #[.int .i64 (sQ a b c),.int .i64 (mI a b c)])):=BH (Xd a b c w)
def aiE(w:World)(zs:List Int)(e:Ending)(w':World):Prop:=
 ∃g,e=.returned (.slice (some ⟨g,0,none⟩) zs.length zs.length)/\w.heap.size<=g/\Own w' g 3 zs/\ak w' w
theorem Y2[a:Sl w A n zs](e:n<=1000000):Calls Tryz.prog 103 #[.slice A n c] w (aiE w zs):=by
 obtain⟨a,rfl⟩:=a;exact(Fs A c zs w e a).mono fun _ _ ⟨g,j,hg,l,hb⟩=>⟨g,j,hg,l,⟨hb⟩⟩
theorem Y3[a:Sl w A n zs](O:n<=1000000){W S:Int}{V:List Int}{E:Int}(hE:Hid (rC zs W S=E))(hV:Hid (rD zs W S=V)):
  Calls Tryz.prog 127 #[.slice A n c,W,S] w (uO w V E):=by
 obtain⟨a,rfl⟩:=a;have a:Sl w A zs.length zs:=⟨a,rfl⟩;have P:=@kQ;rcases hr:aU zs with _|_
 ·obtain rfl:E=20:=by rw[<-hE.out,rC,hr];rfl
  obtain rfl:V=[]:=by rw[<-hV.out,rD,hr];rfl
  go_enter Tryz.func127,Tryz.ntmps127
  go_wp2_with (first|(go_at_call 119;(with_reducible refine(M6 om).mono ?_);rintro e u ⟨rfl,_⟩))
  go_ret2;exact⟨none,0,rfl,Sl.empty,⟨az _⟩,bn.none,ai _ _⟩
 ·obtain⟨r1,Q,-,-⟩:=(j5 zs).1 hr;obtain⟨R,T,z,rfl,I,J,K⟩:=a.get (k:=zs.length-1) om;have j:lQ zs=z:=by rw[lQ,aQ,K.out];rfl
  have m1:((zs.length:Int)-1)=((zs.length-1:Nat):Int):=om;obtain⟨k,C⟩:=lh (zs.length-1);rw[C]at m1 J;have D:k<zs.length:=om;rcases ho:sN z W S with _|_
  ·have F:mI z W S=11:=by simp[mI,ho]
   obtain rfl:E=11:=by rw[<-hE.out,rC,if_pos hr,j,F]
   obtain rfl:V=[]:=by rw[<-hV.out,rD,j,ho];simp
   clear j C;go_enter Tryz.func127,Tryz.ntmps127
   go_wp2_with (first|(go_at_call 119;(with_reducible refine(M6 om).mono ?_);rintro e u ⟨rfl,_⟩)|(go_at_call 190;(with_reducible refine(Y1).mono ?_);rintro e u ⟨rfl,_⟩))
   go_ret2;exact⟨none,0,rfl,Sl.empty,⟨az _⟩,bn.none,ai _ _⟩
  ·have F:mI z W S=0:=by simp[mI,ho]
   obtain⟨v,hv⟩:=lh (sQ z W S);obtain rfl:E=0:=by rw[<-hE.out,rC,if_pos hr,j,F]
   have l:Hid (zs.set k v=V):=ae (by rw[<-hV.out,rD,j,ho,hr,C,hv];rfl);clear j C;go_enter Tryz.func127,Tryz.ntmps127
   go_wp2_with (first|(go_at_call 119;(with_reducible refine(M6 om).mono ?_);rintro e u ⟨rfl,_⟩)|(go_at_call 190;(with_reducible refine(Y1).mono ?_);rintro e u ⟨rfl,_⟩))
   refine(Y2 om).mono ?_;rintro e L ⟨g,rfl,hg,oS,_⟩;have M:=oS.cell (aW D);have N:=oS.frozen k
   go_wp2_with fail
   go_ret2;have r:w.heap.size<=g:=aZ (aH (w:=w) (w':=u)) hg;have G:=oS.aF k v;rw[l.out]at G;have y:V.length=zs.length:=by rw[<-l.out,jQ]
   rw[<-y];exact⟨_,_,rfl,⟨G.rd,rfl⟩,⟨az _⟩,⟨fun ad e=>by injection e with e;subst e;exact r⟩,⟨(aL w L).setCell (p:=⟨g,k,none⟩) r _⟩⟩
def Ap(e:Int)(zs xs:List Int)(W S:Int):Int:=if e≠1/\e≠2 then 21 else if bH zs xs then rC zs W S else 20
def BZ(e:Int)(zs xs:List Int)(W S:Int):List Int:=if Ap e zs xs W S=0 then rD zs W S else[]
theorem aiF{zs:List Int}{W S:Int}(h:¬rC zs W S=0):rD zs W S=[]:=by
 unfold rC at h;unfold rD
 split at h
 ·rename_i hr;unfold mI at h
  split at h
  ·omega
  ·rename_i e;simp[e]
 ·rename_i hr;simp[hr]
theorem Y4[Sl w A n zs][Sl w B m xs](I:n<=1000000){j W S:Int}{V:List Int}{E:Int}(hE:Hid (Ap j zs xs W S=E))(hV:Hid (BZ j zs xs W S=V)):
  Calls Tryz.prog 173 #[j,.agg #[.slice A n c,.slice B m d],W,S] w (uO w V E):=by
 have J:=@bf;by_cases l:j≠1/\j≠2
 ·obtain rfl:E=21:=by rw[<-hE.out,Ap,if_pos l]
  obtain rfl:V=[]:=by rw[<-hV.out,BZ,hE.out];simp
  have k1:(j !=1)=true:=by simpa using l.1
  have k2:(j !=2)=true:=by simpa using l.2
  clear l;go_enter Tryz.func173,Tryz.ntmps173
  go_wp2_with fail
  go_ret2;exact⟨none,0,rfl,Sl.empty,⟨az _⟩,bn.none,ai _ _⟩
 ·have K:=ae l;rcases hr:bH zs xs with _|_
  ·obtain rfl:E=20:=by rw[<-hE.out,Ap,if_neg l,hr];rfl
   obtain rfl:V=[]:=by rw[<-hV.out,BZ,hE.out];simp
   have r:j=1\/j=2:=om;clear l;rcases r with rfl|rfl
   rotate_left
   all_goals
    go_enter Tryz.func173,Tryz.ntmps173
    go_wp2_with (first|(go_at_call 69;(with_reducible refine(tu om).mono ?_);rintro e u ⟨rfl,_⟩))
    go_ret2;exact⟨none,0,rfl,Sl.empty,⟨az _⟩,bn.none,ai _ _⟩
  ·have y:Hid (rC zs W S=E):=ae (by rw[<-hE.out,Ap,if_neg l,hr];rfl);have z:Hid (rD zs W S=V):=ae (by
    rw[<-hV.out,BZ,hE.out]
    split
    ·rfl
    ·rename_i C;exact aiF (by rw[y.out];exact C))
   have r:j=1\/j=2:=om;clear l;rcases r with rfl|rfl
   rotate_left
   all_goals
    go_enter Tryz.func173,Tryz.ntmps173
    go_wp2_with (first|(go_at_call 69;(with_reducible refine(tu om).mono ?_);rintro e u ⟨rfl,_⟩)|(go_at_call 127;(with_reducible refine(Y3 om y z).mono ?_);rintro e u ⟨A',c',rfl,D,F,G,_⟩))
    go_ret2;exact⟨A',c',rfl,D,F,G.less aH,ai _ _⟩
end
def qH(p b x:List Int):Bool:=decide (p.length=2)&&decide (b.length=1)&&decide (b.getD 0 0=p.getD 0 0)&&aU x&&decide (aV x=p.getD 1 0)
def xD(p b x:List Int):List Int:=if qH p b x then[p.getD 0 0]else[]
def xE(p b x:List Int):Int:=if qH p b x then 0 else 20
def IZ(L:List (List Int)):Bool:=L.all fun z=>decide (z=L.headD [])
def uQ(L:List (List Int)):List Int:=if IZ L then L.headD []else[]
def uR(L:List (List Int)):Int:=if IZ L then 0 else 20
section
variable{w w':World}{A B C:Option Addr}{n m k c d e N:Nat}{ps bs xs:List Int}{ss:List Sp}{E:Int}{V:List Int}
theorem Sl.two(h:Sl w A n ps)(F:n=2):∃b o z0 z1,A=some ⟨b,o,none⟩/\Old b w/\w.cell? ⟨b,o,none⟩=some (.int .i64 z0)/\w.cell? ⟨b,o+1,none⟩=some (.int .i64 z1)/\Hid (ps=[z0,z1]):=by
 obtain⟨b,o,z0,rfl,ob,v0,r⟩:=h.get (k:=0) om;obtain⟨b',o',z1,e,u,v1,y⟩:=h.get (k:=1) om;injection e with e;injection e with z D;subst z D
 have j:=h.len;refine⟨b,o,z0,z1,rfl,ob,v0,v1,ae ?_⟩
 match ps,j,r.out,y.out with
 |[a,b],_,h0,h1=>simp at h0 h1;rw[h0,h1]
 |[],j,_,_=>simp at j;omega
 |[a],j,_,_=>simp at j;omega
 |a::b::c::l,j,_,_=>simp at j;omega
theorem Sl.one(h:Sl w A n ps)(u:n=1):∃b o z0,A=some ⟨b,o,none⟩/\Old b w/\w.cell? ⟨b,o,none⟩=some (.int .i64 z0)/\Hid (ps=[z0]):=by
 obtain⟨b,o,z0,rfl,ob,v0,r⟩:=h.get (k:=0) om;have j:=h.len;refine⟨b,o,z0,rfl,ob,v0,ae ?_⟩
 match ps,j,r.out with
 |[a],_,h0=>simp at h0;rw[h0]
 |[],j,_=>simp at j;omega
 |a::b::l,j,_=>simp at j;omega
theorem aiG[a:Sl w A n ps][b:Sl w B m bs][Sl w C k xs](T:k<=1000000)(hV:Hid (xD ps bs xs=V))(hE:Hid (xE ps bs xs=E)):
  Calls Tryz.prog 124 #[.slice A n c,.slice B m d,.slice C k e] w (uO w V E):=by
 have U:=@kQ;have K:=ae a.len;have L:=ae b.len;have no:∀(hb:qH ps bs xs=false),V=[]/\E=20:=fun hb=>by
  rw[<-hV.out,<-hE.out,xD,xE,hb];exact⟨rfl,rfl⟩
 by_cases r:n=2;rotate_left
 ·obtain⟨rfl,rfl⟩:=no (by unfold qH;rw[nC (by rw[<-K.out];exact r)];rfl);have M:((n:Int) !=2)=true:=by rw[Ib];omega
  clear r;go_enter Tryz.func124,Tryz.ntmps124
  go_upto_region 1 with fail
  refine bZ aj (fun D _=>?_);refine ag 0 10 ?_;refine ag 1 11 ?_;refine ag 2 12 ?_;refine ag 3 13 ?_;refine ax 4 14 ?_;refine ax 5 15 ?_;refine ax 6 16 ?_;refine ag 7 17 ?_;refine ag 8 18 ?_;refine ax 9 19 ?_;refine ax 10 20 ?_;refine ax 11 21 ?_;refine ax 12 22 ?_;refine ax 13 23 ?_;refine ax 14 24 ?_;refine ax 15 25 ?_;refine ag 16 26 ?_;refine aO ?_
  go_wp2_with fail
  go_ret2;exact⟨none,0,rfl,Sl.empty,Le.same _,bn.none,ai _ _⟩
 have M:((n:Int) !=2)=false:=by simp;omega
 obtain⟨X,Y,z0,z1,rfl,O,v0,v1,J⟩:=a.two r;by_cases F:m=1;rotate_left
 ·obtain⟨rfl,rfl⟩:=no (by unfold qH;rw[nC (show¬bs.length=1 from by rw[<-L.out];exact F)];simp);have P:((m:Int) !=1)=true:=by rw[Ib];omega
  clear F r;go_enter Tryz.func124,Tryz.ntmps124
  go_upto_region 1 with fail
  refine bZ aj (fun D _=>?_);refine ag 0 10 ?_;refine ag 1 11 ?_;refine ag 2 12 ?_;refine ag 3 13 ?_;refine ag 4 14 ?_;refine ag 5 15 ?_;refine ag 6 16 ?_;refine ag 7 17 ?_;refine ag 8 18 ?_;refine ax 9 19 ?_;refine ax 10 20 ?_;refine ax 11 21 ?_;refine ax 12 22 ?_;refine ax 13 23 ?_;refine ax 14 24 ?_;refine ax 15 25 ?_;refine ag 16 26 ?_;refine aO ?_
  go_wp2_with fail
  go_ret2;exact⟨none,0,rfl,Sl.empty,Le.same _,bn.none,ai _ _⟩
 have P:((m:Int) !=1)=false:=by simp;omega
 obtain⟨Z,o8,y0,rfl,Q,u0,R⟩:=b.one F;have j:qH ps bs xs=(decide (y0=z0)&&aU xs&&decide (aV xs=z1)):=by
  unfold qH;rw[J.out,R.out];rfl
 by_cases y:y0=z0;rotate_left
 ·obtain⟨rfl,rfl⟩:=no (by rw[j,nC y];rfl);have I:(y0 !=z0)=true:=by rw[Ib];exact y
  have n1:0<n:=om;have m1:0<m:=om;clear y j no F r;go_enter Tryz.func124,Tryz.ntmps124
  go_upto_region 1 with fail
  refine bZ aj (fun D _=>?_);refine ag 0 10 ?_;refine ag 1 11 ?_;refine ag 2 12 ?_;refine ag 3 13 ?_;refine ag 4 14 ?_;refine ag 5 15 ?_;refine ag 6 16 ?_;refine ag 7 17 ?_;refine ag 8 18 ?_;refine ag 9 19 ?_;refine ag 10 20 ?_;refine ag 11 21 ?_;refine ag 12 22 ?_;refine ag 13 23 ?_;refine ag 14 24 ?_;refine ag 15 25 ?_;refine ag 16 26 ?_;refine aO ?_
  go_wp2_with fail
  go_ret2;exact⟨none,0,rfl,Sl.empty,Le.same _,bn.none,ai _ _⟩
 have I:(y0 !=z0)=false:=by simp[y]
 rw[l8 y,PS]at j;have n2:1<n:=om;have n1:0<n:=om;have m1:0<m:=om;clear y F r;rcases hr:aU xs with _|_
 ·obtain⟨rfl,rfl⟩:=no (by rw[j,hr];rfl);have G:Hid (bJ xs=0):=ae (by rw[bJ,hr];rfl);have l:Hid (eT xs=20):=ae (by rw[eT,hr];rfl);clear hr j no;go_enter Tryz.func124,Tryz.ntmps124
  go_upto_region 1 with fail
  refine bZ aj (fun D _=>?_);refine ag 0 10 ?_;refine ag 1 11 ?_;refine ag 2 12 ?_;refine ag 3 13 ?_;refine ag 4 14 ?_;refine ag 5 15 ?_;refine ag 6 16 ?_;refine ag 7 17 ?_;refine ag 8 18 ?_;refine ag 9 19 ?_;refine ag 10 20 ?_;refine ag 11 21 ?_;refine ag 12 22 ?_;refine ag 13 23 ?_;refine ag 14 24 ?_;refine ag 15 25 ?_;refine ag 16 26 ?_;refine aO ?_
  go_wp2_with (first|(go_at_call 73;(with_reducible refine(yV om G l).mono ?_);rintro e u ⟨rfl,_⟩))
  go_ret2;exact⟨none,0,rfl,Sl.empty,Le.same _,bn.none,ai _ _⟩
 obtain⟨q,hq⟩:=lh (aV xs);have G:Hid (bJ xs=q):=ae (by rw[bJ,hr,hq];rfl);have l:Hid (eT xs=0):=ae (by rw[eT,hr];rfl);rw[hr,hq,PS]at j;by_cases z:q=z1
 ·obtain⟨rfl,rfl⟩:V=[z0]/\E=0:=by
   rw[<-hV.out,<-hE.out,xD,xE,j,l8 z,J.out];exact⟨rfl,rfl⟩
  have S:(q !=z1)=false:=by simp[z]
  clear z hr j no hq;go_enter Tryz.func124,Tryz.ntmps124
  go_upto_region 1 with fail
  refine bZ aj (fun D _=>?_);refine ag 0 10 ?_;refine ag 1 11 ?_;refine ag 2 12 ?_;refine ag 3 13 ?_;refine ag 4 14 ?_;refine ag 5 15 ?_;refine ag 6 16 ?_;refine ag 7 17 ?_;refine ag 8 18 ?_;refine ag 9 19 ?_;refine ag 10 20 ?_;refine ag 11 21 ?_;refine ag 12 22 ?_;refine ag 13 23 ?_;refine ag 14 24 ?_;refine ag 15 25 ?_;refine ag 16 26 ?_;refine aO ?_
  go_wp2_with (first|(go_at_call 73;(with_reducible refine(yV om G l).mono ?_);rintro e u ⟨rfl,_⟩))
  go_ret2;have:w.heap.size<=u.heap.size:=aH;exact⟨some ⟨u.heap.size,0,none⟩,1,rfl,(Sl.Dn:Sl _ _ 1 [z0]),⟨au⟩,⟨fun ad e=>by injection e with e;subst e;exact this⟩,ai _ _⟩
 ·obtain⟨rfl,rfl⟩:=no (by rw[j,nC z]);have S:(q !=z1)=true:=by rw[Ib];exact z
  clear z hr j no hq;go_enter Tryz.func124,Tryz.ntmps124
  go_upto_region 1 with fail
  refine bZ aj (fun D _=>?_);refine ag 0 10 ?_;refine ag 1 11 ?_;refine ag 2 12 ?_;refine ag 3 13 ?_;refine ag 4 14 ?_;refine ag 5 15 ?_;refine ag 6 16 ?_;refine ag 7 17 ?_;refine ag 8 18 ?_;refine ag 9 19 ?_;refine ag 10 20 ?_;refine ag 11 21 ?_;refine ag 12 22 ?_;refine ag 13 23 ?_;refine ag 14 24 ?_;refine ag 15 25 ?_;refine ag 16 26 ?_;refine aO ?_
  go_wp2_with (first|(go_at_call 73;(with_reducible refine(yV om G l).mono ?_);rintro e u ⟨rfl,_⟩))
  go_ret2;exact⟨none,0,rfl,Sl.empty,Le.same _,bn.none,ai _ _⟩
theorem aiH{L:List (List Int)}{z0:List Int}(h:L[0]?=some z0):IZ L=L.all fun z=>decide (z=z0):=by
 cases L with
 |nil=>cases h
 |cons a l=>injection h with h;subst h;rfl
theorem aiI{L:List (List Int)}{z0:List Int}(h:L[0]?=some z0):L.headD []=z0:=by
 cases L with
 |nil=>cases h
 |cons a l=>injection h
theorem Rt{α:Type}{f:α->Bool}{l:List α}{k:Nat}{x:α}(h:l[k]?=some x)(b:f x=false):l.all f=false:=by
 rw[Fe];exact⟨x,aK h,by simp[b]⟩
theorem M7{α:Type}{f:α->Bool}{l:List α}{k:Nat}{x:α}(h:(l.take k).all f=true)(b:l[k]?=some x)(j:f x=true):(l.take (k+1)).all f=true:=by
 rw[vO,LF,h,b];simp[j]
theorem Ru{α:Type}{f:α->Bool}{l:List α}{k:Nat}(h:(l.take k).all f=true)(b:l.length<=k):l.all f=true:=by rwa[dB b]at h
theorem Y5[a:dA w B n ss][le:Le n c](h1:1<=n)(hn:n<=1000000)(O:Hid (∀z∈aJ ss,aU z=true))(hV:Hid (uQ (aJ ss)=V))(hE:Hid (uR (aJ ss)=E)):
  Calls Tryz.prog 125 #[.slice B n c] w (uO w V E):=by
 have CP:=@kQ;have T:=le.le;have U:Hid (n=(aJ ss).length):=ae (a.len.trans jM.symm);obtain⟨b,o,X,P,c0,z0,rfl,ob,v0,Y,_,D⟩:=a.get (k:=0) om;have m4:P<=4:=by rw[Y.len];exact ry (O.out _ (xC D.out))
 have Q:=ae (aiH D.out);have Z:w.cell? ⟨b,o,none⟩=some (.slice X P c0):=v0;clear v0;obtain⟨l,rfl⟩:∃l,n=l+1:=⟨n-1,om⟩;obtain⟨A',hsl,R⟩:=YP b o l c T;have HA:=ae R;clear R;go_enter Tryz.func125,Tryz.ntmps125
 go_wp2_with fail
 go_loopw [9] (fun i wr=>∃j:Nat,j<=l/\i=.int .i64 j/\Hid (((aJ ss).take (j+1)).all (fun z=>decide (z=z0))=true)/\ak wr w) (fun i _=>l-(intOf i).toNat)
 case atStart=>exact⟨0,aS _,rfl,ae (M7 (k:=0) rfl D.out (l8 rfl)),ai _ _⟩
 case round=>
  obtain⟨j,hj,rfl,S,hp⟩:=hrel;by_cases hlt:j<l
  ·obtain rfl:=HA.out om;obtain⟨b',o',A1,m1,c1,z1,G,I,v1,s1,_,r⟩:=a.get (k:=j+1) om;injection G with G;injection G with J K;subst J K
   have FR:w.cell? ⟨b,o+1+j,none⟩=some (.slice A1 m1 c1):=by rw[show o+1+j=o+(j+1)from om];exact v1
   have m14:m1<=4:=by rw[s1.len];exact ry (O.out _ (xC r.out))
   clear v1 I;by_cases F:z1=z0
   ·have y:Hid (decide (z1=z0)=true):=ae (l8 F);have L:=ae (M7 S.out r.out y.out);clear F r
    go_wp2_with (go_at_call 70;refine(Rm om om y).mono ?_;rintro e u ⟨rfl,_⟩)
    go_roundw
    case rel=>exact⟨j+1,om,by go_num,L,ai _ _⟩
    case measure=>simp[intOf];omega
   ·have y:Hid (decide (z1=z0)=false):=ae (nC F);have M:Hid (IZ (aJ ss)=false):=ae (by rw[Q.out];exact Rt r.out y.out);obtain⟨rfl,rfl⟩:V=[]/\E=20:=by rw[<-hV.out,<-hE.out,uQ,uR,M.out];exact⟨rfl,rfl⟩
    clear F r
    go_wp2_with (go_at_call 70;refine(Rm om om y).mono ?_;rintro e u ⟨rfl,_⟩)
    go_ret2;exact⟨none,0,rfl,Sl.empty,Le.same _,bn.none,ai _ _⟩
  ·have M:Hid (IZ (aJ ss)=true):=ae (by rw[Q.out];exact Ru S.out (by rw[<-U.out];omega));obtain⟨rfl,rfl⟩:V=z0/\E=0:=by rw[<-hV.out,<-hE.out,uQ,uR,M.out,aiI D.out];exact⟨rfl,rfl⟩
   go_wp2_with (first|(go_at_call 103;(with_reducible refine(IJ om).mono ?_);rintro e u ⟨gS,rfl,sS,fS,_⟩))
   go_ret2;exact⟨some ⟨gS,0,none⟩,_,rfl,sS,Le.same _,fS.less aH,ai _ _⟩
theorem tN[Sl w A n ps](b:n<=1000000){v e:Int}(hv:Hid (bJ ps=v/\eT ps=e)):Calls Tryz.prog 73 #[.slice A n c] w (aM w (.tuple #[v,e])):=yV b (ae hv.out.1) (ae hv.out.2)
def yY(xs ps:List Int):Int:=if aU xs then(if aU ps then(if aV ps=aV xs then 0 else 20)else 20)else 20
def DR(xs ps:List Int):List Int:=if yY xs ps=0 then ps else[]
theorem aiJ[Sl w A n xs][Sl w B m ps](y:n<=1000000)(hm:m<=1000000)(hV:Hid (DR xs ps=V))(hE:Hid (yY xs ps=E)):
  Calls Tryz.prog 130 #[.slice A n c,.slice B m d] w (uO w V E):=by
 have no:yY xs ps=20->V=[]/\E=20:=fun h=>by rw[<-hV.out,<-hE.out,DR,h];exact⟨rfl,rfl⟩
 obtain⟨l,ex,b⟩:∃v e,bJ xs=v/\eT xs=e:=⟨_,_,rfl,rfl⟩;obtain⟨r,I,hp⟩:∃v e,bJ ps=v/\eT ps=e:=⟨_,_,rfl,rfl⟩;have z:=ae b;have D:=ae hp;rcases r1:aU xs with _|_
 ·obtain⟨rfl,rfl⟩:=no (by rw[yY,r1];rfl);obtain rfl:ex=20:=by rw[<-b.2,eT,r1];rfl
  clear b hp r1 no;go_enter Tryz.func130,Tryz.ntmps130
  go_wp2_with (first|(first|(go_at_call 73;(with_reducible refine(tN y z).mono ?_);rintro e u ⟨rfl,_⟩))|(first|(go_at_call 73;(with_reducible refine(tN hm D).mono ?_);rintro e u ⟨rfl,_⟩)))
  go_ret2;exact⟨none,0,rfl,Sl.empty,Le.same _,bn.none,ai _ _⟩
 obtain rfl:ex=0:=by rw[<-b.2,eT,r1];rfl
 rcases r2:aU ps with _|_
 ·obtain⟨rfl,rfl⟩:=no (by rw[yY,r1,r2];rfl);obtain rfl:I=20:=by rw[<-hp.2,eT,r2];rfl
  clear b hp r1 r2 no;go_enter Tryz.func130,Tryz.ntmps130
  go_wp2_with (first|(first|(go_at_call 73;(with_reducible refine(tN y z).mono ?_);rintro e u ⟨rfl,_⟩))|(first|(go_at_call 73;(with_reducible refine(tN hm D).mono ?_);rintro e u ⟨rfl,_⟩)))
  go_ret2;exact⟨none,0,rfl,Sl.empty,Le.same _,bn.none,ai _ _⟩
 obtain rfl:I=0:=by rw[<-hp.2,eT,r2];rfl
 have F:aV xs=l:=by rw[<-b.1,bJ,r1];rfl
 have G:aV ps=r:=by rw[<-hp.1,bJ,r2];rfl
 have j:yY xs ps=if r=l then 0 else 20:=by rw[yY,r1,r2,F,G];rfl
 by_cases h:r=l
 ·rw[if_pos h]at j;obtain⟨rfl,rfl⟩:V=ps/\E=0:=by rw[<-hV.out,<-hE.out,DR,j];exact⟨rfl,rfl⟩
  have J:(r !=l)=false:=by simp[h]
  clear b hp r1 r2 no F G j h;go_enter Tryz.func130,Tryz.ntmps130
  go_wp2_with (first|(first|(go_at_call 73;(with_reducible refine(tN y z).mono ?_);rintro e u ⟨rfl,_⟩))|(first|(go_at_call 73;(with_reducible refine(tN hm D).mono ?_);rintro e u ⟨rfl,_⟩))|(first|(go_at_call 103;(with_reducible refine(IJ om).mono ?_);rintro e u ⟨K,rfl,L,M,_⟩)))
  go_ret2;exact⟨some ⟨K,0,none⟩,_,rfl,L,Le.same _,M.less aH,ai _ _⟩
 ·rw[if_neg h]at j;obtain⟨rfl,rfl⟩:=no j;have J:(r !=l)=true:=by rw[Ib];exact h
  clear b hp r1 r2 no F G j h;go_enter Tryz.func130,Tryz.ntmps130
  go_wp2_with (first|(first|(go_at_call 73;(with_reducible refine(tN y z).mono ?_);rintro e u ⟨rfl,_⟩))|(first|(go_at_call 73;(with_reducible refine(tN hm D).mono ?_);rintro e u ⟨rfl,_⟩)))
  go_ret2;exact⟨none,0,rfl,Sl.empty,Le.same _,bn.none,ai _ _⟩
end
end Go.Proofs.YtmkjnlifimffkaaGreat
