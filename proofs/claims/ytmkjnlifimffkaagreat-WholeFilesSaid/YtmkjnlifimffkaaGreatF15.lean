/- Lemmas. -/
import Derived.Test.YtmkjnlifimffkaaGreatF14
namespace Go.Proofs.YtmkjnlifimffkaaGreat
open Go.RowKit Tryz
set_option linter.all false
set_option maxRecDepth 100000
set_option maxHeartbeats 0
variable{A:Option Addr}{ts:List Tn}{w':World}{c:Nat}
def tc(b:List Tn):List Value:=b.flatMap λt=>[.slice t.A t.zs.length t.c,.slice t.B t.xs.length t.d]
def nX(b e:List Tn):tc (b++e)=tc b++tc e:=by simp[tc]
def nY(b:List Tn):(tc b).length=b*2:=by
 induction b with
 |nil=>rfl
 |cons t l e=>simp[tc]at e⊢;omega
def IP:∀{ts:List Tn} {j:Nat} {t:Tn},ts[j]?=some t->(tc ts)[j*2]?=some (.slice t.A t.zs.length t.c)/\(tc ts)[j*2+1]?=some (.slice t.B t.xs.length t.d)
 |u::l,0,t,h=>by simp at h;subst h;simp[tc]
 |u::l,j+1,t,h=>by
  have:=IP (ts:=l) (j:=j) (t:=t) (by simpa using h);have e:tc (u::l)=[.slice u.A u.zs.length u.c,.slice u.B u.xs.length u.d]++tc l:=by simp[tc]
  rw[e,ew bY,ew bY];simp only[dm,nn];rw[show(j+1)*2-(0+1+1)=j*2 from om,show(j+1)*2+1-(0+1+1)=j*2+1 from om];exact this
def Vo(b:List Tn):∀u∈tc b,u.oneCell'=true:=by
 intro u hu;obtain⟨t,_,hu⟩:=nf.1 hu;simp at hu;rcases hu with rfl|rfl<;>rfl
def QJ(w:ay)(B:Nat)(A:cD)(c:Nat)(b:List Tn):Prop:=w.ownsRow B 28 2 (.slice A b c) b.length (tc b)
def TE(w:ay)(t:Tn):Prop:=Rd w t.A t.zs/\Rd w t.B t.xs/\t.xs.length<=t.d/\∀z∈t.xs,bo z
def TE.below{w w':ay}{t:Tn}(h:TE w t)(hb:Below w.1.size w w'):TE w' t:=⟨h.1.below hb,h.2.1.below hb,h.2.2⟩
def mN.elems{w:ay}(h:mN w A ts):∀t∈ts,TE w t:=λt ht=>by
 obtain⟨j,b⟩:=List.mem_iff_getElem?.1 ht;obtain⟨_,_,_,k⟩:=h j t b;exact⟨k.s,k.x,k.le,k.bd⟩
section
variable{w:World}{B:Nat}
def QJ.trd(h:QJ w B A c ts)(l:∀t∈ts,TE w t):mN w A ts:=by
 rcases h.2 with⟨_,m⟩|⟨g,cap,b,hv,z,hg,C,hm,D,ht⟩
 .rw[jY m];exact mN.nil _ _
 .injection hv with hv _ _
  subst hv;intro j t e;obtain⟨a0,r⟩:=IP e;have u:=(a5.1 e).1;have look:∀k v,k<ts.length*2->(tc ts)[k]?=some v->w.cell? (g,k)=some v:=by
   intro k v y hv;rw[<-ht,eY,ah y]at hv;have:b[k]?=some v:=by simpa using hv
   simp[World.cell?,hg,this]
  obtain⟨s,x,le,bd⟩:=l t (aC e);refine⟨g,0,rfl,(eX.1 hg).1,?_,?_,s,x,le,bd⟩
  .rw[bX];exact look _ _ om a0
  .rw[bX];exact look _ _ om r
end
def Aj(ps:List Tn)(n:Nat):Array Value:=(tc ps++List.replicate ((n-ps.length)*2) (Value.slice none 0 0)).toArray
def xN(n:Nat):madeCells #[Value.slice none 0 0,Value.slice none 0 0] (n*2)=Aj [] n:=by
 apply lS;simp only[madeCells,Array.toList_map,Array.toList_range,Aj,tc,List.flatMap_nil,kj,nn,wk];apply rZ
 .simp
 .intro i b e;simp only[List.getElem_map,List.getElem_range,List.getElem_replicate];rcases Ka i with h|h<;>simp[h]
def Fy(n:Nat)(l:n<=1000000)(W:World):(Instr.makeSlice 23 (.int .i64 (n:Int)) (.int .i64 (n:Int))).run prog W=.ok (.slice W n n) (W.alloc (.cells (Aj [] n) 28)):=by
 have b:(prog.info? 28).map (λi=>(i.zero,i.size,i.bytes))=some (some (.agg #[.slice none 0 0,.slice none 0 0]),2,48):=aq;obtain⟨i,hi,e⟩:=bD.1 b;simp only[dL]at e;obtain⟨j,hs,hb⟩:=e;have:=lP (P:=prog) W 23 28 i _ underlying23 hi j .i64 .i64 n n om (dM _) (by rw[hs];simp;omega) (by rw[hb];omega) om;rw[hs]at this;rw[<-xN];simpa[Value.cells]using this
def AY(ps:List Tn){n:Nat}(h:ps.length<=n):(Aj ps n).size=n*2:=by
 simp[Aj,nY];omega
section
variable{R b b' c' d d' g m:Nat}{X u:World}{B C:Option Addr}{xs ys zs:List Int}{us:List Tn}{Hs T T' T1 T2:TypeId}{act:Act}{gp gx:List TV}{i4 wP:Array Value}{v:Value}
section
set_option linter.unusedVariables false
def jC{o:Nat}(h:b<=g):bV b (some ⟨g,o,none⟩):=⟨λj e=>by injection e with e;subst e;exact h⟩
def fv(w:World)(b:Nat)(A:Option Addr)(n c:Nat)(L:List TV):Prop:=
 ∃e,Ts w A n e/\n<=c/\bV b A/\(∀t∈e,bV b t.A/\bV b t.B/\t.zs.length<=t.c)/\e.map Tn.tv=L
def Dr(w:World)(gp b:List TV)(e:Ending)(w':World):Prop:=
 ∃A n c B m d,e=.returned (.tuple #[.agg #[.slice A n c,.slice B m d],au])/\fv w' w A n c gp/\fv w' w B m d b/\aj w' w
section
variable{w:World}{D:Option Addr}{n m' G:Nat}{ts:List Int}{L:List TV}
def fv.nil:fv w b none 0 0 []:=⟨[],Ts.empty,an _,bV.none,λ_ h=>absurd h aG,rfl⟩
def fv.at(h:fv w b A n c L)[l:aF w w']:fv w' b A n c L:=by
 obtain⟨ts,e,j⟩:=h;exact⟨ts,⟨e.rd.below l.st,e.len⟩,j⟩
def fv.less(h:fv w b A n c L)(hb:b'<=b):fv w b' A n c L:=by
 obtain⟨ts,j,l,r,e,u⟩:=h;exact⟨ts,j,l,r.less hb,λt ht=>⟨(e t ht).1.less hb,(e t ht).2.1.less hb,(e t ht).2.2⟩,u⟩
def mN.a9{p:Addr}(h:mN w A us)(fA:bV b A)(ft:∀t∈us,bV b t.A/\bV b t.B/\t.zs.length<=t.c)(hp:p.block<b)(v:Value):mN (w.setCell p v) A us:=λj t E=>by
 obtain⟨g,o,rfl,k⟩:=h j t E;have ne:g≠p.block:=by have:=fA.o _ rfl;dsimp only at this;omega
 have F:∀i,(w.setCell p v).cell? ⟨g,i,none⟩=w.cell? ⟨g,i,none⟩:=λi=>dY (bm w p v g ne);have ht:=ft t (aC E);have e:∀{A:Option Addr} {zs:List Int},Rd w A zs->bV b A->Rd (w.setCell p v) A zs:=λ{A zs} hr I j z J=>by
  obtain⟨l,K,rfl,r,u⟩:=hr j z J;have y:l≠p.block:=by have:=I.o _ rfl;dsimp only at this;omega
  exact⟨l,K,rfl,by simpa using r,(dY (bm w p v l y)).trans u⟩
 exact⟨g,o,rfl,⟨by simpa using k.old,(F _).trans k.c0,(F _).trans k.c1,e k.s ht.1,e k.x ht.2.1,k.le,k.bd⟩⟩
def fv.a9{p:Addr}(h:fv w b A n c L)(hp:p.block<b)(v:Value):fv (w.setCell p v) b A n c L:=by
 obtain⟨ts,e,r,j,l,u⟩:=h;exact⟨ts,⟨e.rd.a9 j l hp v,e.len⟩,r,j,l,u⟩
def fv.cU(h:fv w b A n c L)(hp:G<b)(v0 e:Value):fv ((w.setCell ⟨G,0,none⟩ v0).setCell ⟨G,1,none⟩ e) b A n c L:=
 (h.a9 (p:=⟨G,0,none⟩) hp v0).a9 (p:=⟨G,1,none⟩) hp e
def fv.one[Bx w G T #[.slice A n c,.slice B m d]][s:Sl w A n zs][Sl w B m xs][e:Le n c][Le m d][dp xs](j:b<=G)(fA:bV b A)(fB:bV b B):fv w b (some ⟨G,0,none⟩) 1 1 [(zs,xs)]:=
 ⟨_,Ts.wO,an _,jC j,λt ht=>by rw[cF.1 ht];exact⟨fA,fB,by rw[<-s.len];exact e.le⟩,rfl⟩
def fv.two[Bx w G T #[.slice A n c,.slice B m d,.slice C R c',.slice D m' d']][s:Sl w A n zs][Sl w B m xs][j:Le n c][Le m d][dp xs][l:Sl w C R ts][Sl w D m' ys][e:Le R c'][Le m' d'][dp ys](r:b<=G)(fA:bV b A)(fB:bV b B)(u:bV b C)(y:bV b D):
  fv w b (some ⟨G,0,none⟩) 2 2 [(zs,xs),(ts,ys)]:=
 ⟨_,Ts.Ky,an _,jC r,λt ht=>by
  simp only[bT,kG,lN]at ht;rcases ht with rfl|rfl
  .exact⟨fA,fB,by rw[<-s.len];exact j.le⟩
  .exact⟨u,y,by rw[<-l.len];exact e.le⟩,rfl⟩
def uE{F:Func}(k:Bx X G T #[.slice A n c,.slice B m d])[aF w u](l:w.heap.size<=G)(j:X=(u.setCell ⟨G,0,none⟩ (.slice A n c)).setCell ⟨G,1,none⟩ (.slice B m d))(hd:act.defers=[])
  (e:∀W:World,W.cell? ⟨G,0,none⟩=some (.slice A n c)->W.cell? ⟨G,1,none⟩=some (.slice B m d)->(results F act.tmps).run prog W=.ok (.tuple #[.agg #[.slice A n c,.slice B m d],au]) W)
  (r:fv u b A n c gp) (y:fv u b B m d gx) (hb:G<b):bodyPost prog F (Dr w gp gx) .ret act X:=by
 obtain⟨r0,r1⟩:=di k.al;refine a8 (e _ r0 r1) hd ⟨A,n,c,B,m,d,rfl,?_,?_,?_⟩
 .rw[j];exact(r.cU hb _ _).less om
 .rw[j];exact(y.cU hb _ _).less om
 .rw[j];exact⟨cM (a7 w u) l _ _⟩
def Zo(w:World)(b:Nat)(L:List TV)(e:Ending)(w':World):Prop:=
 ∃G,e=.returned (.tuple #[.agg #[.slice none 0 0,.slice (some ⟨G,0,none⟩) 1 1],au])/\fv w' b (some ⟨G,0,none⟩) 1 1 L/\aj w' w
def xO{Q:World->Prop}{T:TypeId}{cs:Array Value}(h:∀u,aj u X->Bx u X T cs->Bx u (X.heap.size+1) T' i4->Bx u (X.heap.size+1+1) Hs wP->u.heap.size=X.heap.size+1+1+1->Q u):Q (((X.alloc (.cells cs T)).alloc (.cells i4 T')).alloc (.cells wP Hs)):=
 h _ (ab _ _) ao ao ao aG
def AZ{Q:World->Prop}{T:TypeId}{cs:Array Value}(h:∀u,aj u X->Bx u X T cs->Q u):Q (X.alloc (.cells cs T)):=h _ (ab _ _) ao
def IQ{Q:World->Prop}{T:TypeId}{cs e j:Array Value}(h:∀l u,aj l X->aj u l->Bx l X T cs->Bx l (X.heap.size+1) T1 e->l.heap.size<=X.heap.size+1+1->Bx u (X.heap.size+1+1) T2 j->Q u):Q (((X.alloc (.cells cs T)).alloc (.cells e T1)).alloc (.cells j T2)):=
 h ((X.alloc (.cells cs T)).alloc (.cells e T1)) _ (ab _ _) (ab _ _) ao ao aG ao
def A0[Sl w A n zs][Sl w B m xs](l:n<=1000000)(hm:m<=1000000):() 71 #[.agg #[.slice A n c,.slice B m d]] w λe w'=>∃g j,e=.returned (.agg #[.slice (some ⟨g,0,none⟩) zs zs.length,.slice (some ⟨j,0,none⟩) xs xs.length])/\Sl w' (some ⟨g,0,none⟩) zs zs/\Sl w' (some ⟨j,0,none⟩) xs xs/\bV w (some ⟨g,0,none⟩)/\bV w (some ⟨j,0,none⟩)/\aj w' w:=
 (o8 l hm).mono λ_ _ ⟨g,j,h,r,u,o1,y,p⟩=>⟨g,j,h,⟨o1.rd,rfl⟩,⟨y.rd,rfl⟩,jC r,jC u,p⟩
def IR[Sl w A n zs][Sl w B m xs][Le n c][Le m d][dp xs](hb:b<=w.heap.size)(fA:bV b A)(fB:bV b B):
  () 108 #[.agg #[.slice A n c,.slice B m d],au] w (Zo w b [(zs,xs)]):=by
 have e:=@aa;have j:=@aP;go_enter func108,ntmps108
 go_wp2_with fail
 refine xO (λu _ _ k1 k2 _=>?_);obtain⟨r0,r1⟩:=di k1.al;exact a8 (v:=.tuple #[.agg #[.slice none 0 0,.slice (some ⟨w.heap.size+1+1,0,none⟩) 1 1],au]) (by simp[results,results108,go_sem,r0,r1]) rfl ⟨_,rfl,fv.one om fA fB,ab _ _⟩
def Fz{p k:Nat}{V:Option Addr}(hv:v=.slice V p k):() 110 #[v,au] w (aD w (.tuple #[.agg #[.slice none 0 0,v],au])):=by
 subst hv;have e:=@aa;have j:=@aP;go_enter func110,ntmps110
 go_wp2_with fail
 refine AZ (λu _ k1=>?_);obtain⟨r0,r1⟩:=di k1.al;exact a8 (v:=.tuple #[.agg #[.slice none 0 0,.slice V p k],au]) (by simp[results,results110,go_sem,r0,r1]) rfl ⟨rfl,ab _ _⟩
end
end
end
section
variable{u:World}{B C K:Option Addr}{R S Z b b' c' c2 cx d d' d2 e f' gc gd i j l m n2 q:Nat}{O Y gs xs ys zs:List Int}{T T1 T2:TypeId}{kk side st z:Int}{us:List Tn}{act:Act}{GP GX gp gx:List TV}{x0 x1:Value}
section
set_option linter.unusedVariables false
def Vp(b:Int)(x:TV)(V:List Int)(W S:Int)(g:List Int):List Int:=tab x.2.length (iS b x.2 g (eN x.1).toNat (eN V).toNat S.toNat W.toNat (aN V).toNat)
noncomputable def Ak(o:gj)(ps xs:List TV)(V g:List Int):List TV:=
 if o.kd=8 then[((ps.getD 0 ([],[])).1,eC g (xs.getD 0 ([],[])).2),((ps.getD 1 ([],[])).1,g)]
 else if o.kd=9 then[(V,g)]
 else if o.kd=10 then[]
 else[]
noncomputable def qF(o:gj)(ps xs:List TV)(V g:List Int):List TV:=
 if o.kd=8 then[((xs.getD 0 ([],[])).1,j1 (xs.getD 0 ([],[])).2.length (ps.getD 0 ([],[])).2 g)]
 else if o.kd=9 then[(V,g)]
 else if o.kd=10 then[]
 else if o.kd=11 then[((xs.getD 0 ([],[])).1,Vp 1 (xs.getD 0 ([],[])) V o.wd o.st g)]
 else if o.kd=12 then[((xs.getD 0 ([],[])).1,Vp 2 (xs.getD 0 ([],[])) V o.wd o.st g)]
 else if o.kd=13 then[]
 else if o.kd=14 then[]
 else if o.kd=15 then[((xs.getD 0 ([],[])).1,g)]
 else if o.kd<=5 then[((xs.getD 0 ([],[])).1,mA o.kd o.k (xs.map sE) g (xs.getD 0 ([],[])).2.length)]
 else[((xs.getD 0 ([],[])).1,mA o.kd o.k (xs.map sE) g (xs.getD 0 ([],[])).2.length),((xs.getD 0 ([],[])).1,mX o.kd (xs.map sE) g (xs.getD 0 ([],[])).2.length)]
structure TF(w:World)(b:Nat)(A:Option Addr)(c:Nat)(B:Option Addr)(d:Nat)(zs xs:List Int):Prop where
 s:Sl w A zs zs
 x:Sl w B xs xs
 lc:Le zs.length c
 ld:Le xs.length d
 fA:bV b A
 fB:bV b B
section
variable{w:World}{D E F:Option Addr}{n m' m2 p e' G:Nat}{ts us vs V:List Int}{u5:List Tn}
def TF.below(h:TF w b A c B d zs xs)(hb:Below w w w')(l:b'<=b):TF w' b' A c B d zs xs:=⟨⟨h.s.rd.below hb,rfl⟩,⟨h.x.rd.below hb,rfl⟩,h.lc,h.ld,h.fA.less l,h.fB.less l⟩
def TF.a9(h:TF w b A c B d zs xs)(e:G<b)(v:Value):TF (w.setCell ⟨G,i,none⟩ v) b A c B d zs xs:=⟨h.s.setCell (p:=⟨G,i,none⟩) h.fA e v,h.x.setCell (p:=⟨G,i,none⟩) h.fB e v,h.lc,h.ld,h.fA,h.fB⟩
def TF.less(h:TF w b A c B d zs xs)(l:b'<=b):TF w b' A c B d zs xs:=⟨h.s,h.x,h.lc,h.ld,h.fA.less l,h.fB.less l⟩
def TF.one[Bx w G T #[.slice A zs c,.slice B xs d]](t:TF w b' A c B d zs xs)(i6:∀z∈xs,bo z)(e:b<=G)(l:b<=b'):fv w b (some ⟨G,0,none⟩) 1 1 [(zs,xs)]:=by
 have:=t.s;have:=t.x;have:=t.lc;have:=t.ld;have:dp xs:=⟨i6⟩;exact fv.one e (t.fA.less l) (t.fB.less l)
def Zp(w:World)(z1 x1 j x2 z3 l:List Int)(e:Ending)(w':World):Prop:=
 ∃r c1 u d1 y c2 z d2 I c3 J K,e=.returned (.tuple #[.agg #[.slice r z1 c1,.slice u x1 d1,.slice y j c2,.slice z x2 d2,.slice I z3 c3,.slice J l K],au])/\
  TF w' w r c1 u d1 z1 x1/\TF w' w y c2 z d2 j x2/\TF w' w I c3 J K z3 l/\aj w' w
def az.tf(e:az w b T1 A c zs)(j:az w b T2 B d xs):TF w b A c B d zs xs:=⟨⟨e.rd,rfl⟩,⟨j.rd,rfl⟩,⟨e.gW⟩,⟨j.gW⟩,⟨e.fresh⟩,⟨j.fresh⟩⟩
def FC[a:Sl w A n zs][j:Sl w B m xs][l:Sl w C R ts][I:Sl w D m' ys][r:Sl w E n2 us][u:Sl w F m2 vs]{P:Option Addr}[a3:Sl w P p ts][y:Sl w K q gs][ld:Le m d][J:dp xs][L:dp vs][M:dp gs](z:n2<=1000000){X:List Int}(hr:Hx (xE zs xs ts ys us vs ts gs=true))(N:Hx (X=eC gs vs))(O:Hx (Y=j1 vs.length xs gs)):
  () 105 #[.agg #[.slice A n c,.slice B m d],.agg #[.slice C R c',.slice D m' d'],.agg #[.slice E n2 c2,.slice F m2 d2],.agg #[.slice P p e',.slice K q f']] w (Zp w zs X ts gs us Y):=by
 obtain⟨a,rfl⟩:=a;obtain⟨j,rfl⟩:=j;obtain⟨l,rfl⟩:=l;obtain⟨I,rfl⟩:=I;obtain⟨r,rfl⟩:=r;obtain⟨u,rfl⟩:=u;obtain⟨a3,rfl⟩:=a3;obtain⟨y,rfl⟩:=y;rw[N.o,O.o];exact(Fq A B C D E F P K c d c' d' c2 d2 e' f' zs xs ts ys us vs ts gs w ld.le z a j l r u a3 y (ae J.bd) (ae L.bd) (ae M.bd) hr).mono λ_ _ ⟨S,c1,U,d1,Z,c2,B2,d2,A3,c3,B3,d3,e,o1,o2,o3,o4,o5,o6,hb⟩=>⟨S,c1,U,d1,Z,c2,B2,d2,A3,c3,B3,d3,e,o1.tf o2,o3.tf o4,o5.tf o6,⟨hb⟩⟩
def M7{wd:Int}{X:List Int}{W:Nat}[Sl w A n zs][Sl w B m xs][Sl w C R V][Sl w D m' ys][dp ys][Le m d](e:Hx (wd=(W:Int)/\st=(S:Int)))(y:n<=1000000)(r:R<=1000000)(hr:aJ zs xs=true)(I:z=1\/z=2)(J:Hx (PW zs V j Z l W S))(u:aJ V ys=true)(K:Hx (X=tab (j*Z) (iS z xs ys Z l S W (j*l)))):
  () 109 #[z,.agg #[.slice A n c,.slice B m d],.agg #[.slice C R c',.slice D m' d'],wd,st] w (he w zs X 0):=by
 rw[e.o.1,e.o.2];exact Dl y r hr I J u K
def Vq(w:World)(L:List TV)(e:Ending)(w':World):Prop:=∃A n c,e=.returned (.tuple #[.slice A n c,au])/\fv w' w A n c L/\aj w' w
end
def Ds(h:aJ zs xs=true):zs.length<=4/\xs.length<=65536:=⟨(jO h).2,(jO h).1⟩
def A4{g x:List Int}(hg:∀z∈g,bo z)(j:∀z∈x,bo z):∀z∈eC g x,bo z:=λz e=>by
 rw[eC,nf]at e;obtain⟨a,l,h⟩:=e;obtain⟨b,hb,rfl⟩:=bC.1 h;exact gG (hg a l) (j b hb)
def TF.QK{w:World}{G:Nat}(h:TF w b A c B d zs xs)(e:G<b)(v0 j l v3 v4 m:Value):TF ((((((w.setCell ⟨G,0,none⟩ v0).setCell ⟨G,1,none⟩ j).setCell ⟨G,2,none⟩ l).setCell ⟨G,3,none⟩ v3).setCell ⟨G,4,none⟩ v4).setCell ⟨G,5,none⟩ m) b A c B d zs xs:=
 (((((h.a9 e v0).a9 e j).a9 e l).a9 e v3).a9 e v4).a9 e m
def A5{n:Nat}{g:List Int}:∀z∈j1 n xs g,bo z:=λz b=>by
 rw[j1]at b;obtain⟨j,_,rfl⟩:=bC.1 b;exact Fm _ _ _ _ _
section
variable{w:World}{D E F:Option Addr}{n m' p e' G:Nat}{ts S V g:List Int}{ps:List Tn}
def TF.at(h:TF w b A c B d zs xs)[l:aF w w']:TF w' b A c B d zs xs:=h.below l.st (an _)
def TF.two[Bx w G T #[.slice A zs c,.slice B xs d,.slice C ts c',.slice D ys d']](t:TF w b' A c B d zs xs)(e:TF w b' C c' D d' ts ys)(i6:∀z∈xs,bo z)(j:∀z∈ys,bo z)(r:b<=G)(l:b<=b'):fv w b (some ⟨G,0,none⟩) 2 2 [(zs,xs),(ts,ys)]:=by
 have:=t.s;have:=t.x;have:=t.lc;have:=t.ld;have:dp xs:=⟨i6⟩;have:=e.s;have:=e.x;have:=e.lc;have:=e.ld;have:dp ys:=⟨j⟩;exact fv.two r (t.fA.less l) (t.fB.less l) (e.fA.less l) (e.fB.less l)
def FD{F:Func}[k:Bx u G T #[x0,x1]][aF w u](j:w.heap.size<=G)(hd:act.defers=[])
  (e:∀W:World,W.cell? ⟨G,0,none⟩=some (.slice A n c)->W.cell? ⟨G,1,none⟩=some (.slice B m d)->(results F act.tmps).run prog W=.ok (.tuple #[.agg #[.slice A n c,.slice B m d],au]) W)
  (l:fv u b A n c gp) (r:fv u b B m d gx) (hb:G<b):bodyPost prog F (Dr w gp gx) .ret act ((u.setCell ⟨G,0,none⟩ (.slice A n c)).setCell ⟨G,1,none⟩ (.slice B m d)):=
 uE (T:=T) ⟨aB.cY k.al _ _⟩ j rfl hd e l r hb
def Vr{k:Int}:mA z k ((us.map Tn.tv).map sE) g l=mA z k us g l:=by
 unfold mA;rw[Do];exact fj λi _=>by rw[KV]
def Vs:mX z ((us.map Tn.tv).map sE) g l=mX z us g l:=by
 unfold mX;rw[Do]
def pq{L:List Int}(h:∀z∈L,bo z)(i:Nat):bo (L.getD i 0):=by
 rw[aX];cases e:L[i]? with
 |none=>exact⟨ak,ak⟩
 |some z=>exact h z (aC e)
def KX{k:Int}(e:bo k)(hs:∀i,bo (sec us i))(hg:∀r∈g,bo r):∀r∈mA z k us g l,bo r:=λr j=>by
 obtain⟨i,_,rfl⟩:=bC.1 j;exact ID e (hs i) (pq hg i)
def KY(hs:∀j∈hA us,bo j)(hg:∀j∈g,bo j):∀j∈mX z us g l,bo j:=λj e=>by
 obtain⟨i,_,rfl⟩:=bC.1 e;exact IE (pq hs i) (pq hg i)
def Vt(h:mN w A us):∀z∈hA us,bo z:=λz j=>by
 unfold hA at j;cases e:us[0]? with
 |none=>rw[e]at j;simp at j
 |some t=>
  rw[e]at j;obtain⟨_,_,_,k⟩:=h 0 t e;exact k.bd z j
def IS{X:List Int}[a:Ts w A 2 us][J:I6 kk][Sl w B p zs][Sl w C q xs][u:dp xs](hp:p<=1000000)(K:Hx (∀t∈us,t.zs.length<=1000000))(hE:Hx (gR z us=0))(hr:aJ zs xs=true)(hs:Hx (zs=lF us))(L:Hx (O=lF us))(y:Hx (X=mA z kk us xs (hA us).length))(I:Hx (Y=mX z us xs (hA us).length)):
  () 114 #[z,kk,.agg #[.slice B p d,.slice C q e'],.slice A 2 c] w (Vq w [(O,X),(O,Y)]):=
 (Dq hp K hE.o hr hs.o L y I).mono λ_ _ ⟨G,M,j,N,l,e,l1,P,Q,U,l5,ne,kG,oS,oX,r,oY,pw⟩=>⟨_,_,_,e,by
  have:Sl _ (some ⟨M,0,none⟩) O O:=⟨oS.rd,rfl⟩;have:Sl _ (some ⟨j,0,none⟩) X X:=⟨oX.rd,rfl⟩;have:Sl _ (some ⟨N,0,none⟩) O O:=⟨r.rd,rfl⟩;have:Sl _ (some ⟨l,0,none⟩) Y Y:=⟨oY.rd,rfl⟩;have:dp X:=⟨by rw[y.o];exact KX J.bd (λi=>(Dn a.rd i).bd) u.bd⟩;have:dp Y:=⟨by rw[I.o];exact KY (Vt a.rd) u.bd⟩;exact fv.two l1 (jC P) (jC U) (jC Q) (jC l5),pw⟩
end
section
variable{w:World}{E F:Option Addr}{n nx ng:Nat}{o:gj}{g:List Int}
def QL[Sl w A n o.S][I6 o.k](hn:n<=1000000)[a:Ts w B m ts][x:Ts w C nx us][Le nx cx](hx:nx<=1000000)(hT:Hx (fo ts))(hU:Hx (fo us))(hE:da o (ts.map (·.zs)) (us.map (·.zs))=0)(hq:Hx (f7 o)){V:List Int}
  (hV:Hx (cy o (ts.map (·.zs)) (us.map (·.zs))=V)) [sg:Sl w E ng V] [Sl w F R g] [ig:dp g] [Le R gd] (hg:Hx (aJ V g=true))  (QM:Hx (Ak o (ts.map Tn.tv) (us.map Tn.tv) V g=GP)) (QN:Hx (qF o (ts.map Tn.tv) (us.map Tn.tv) V g=GX)):
  () 64 #[.agg (fL o.kd o.k o.wd o.st o.sd o.fr o.tt (.slice A n d)),.slice B m e,.slice C nx cx,.agg #[.slice E ng gc,.slice F R gd]] w (Dr w GP GX):=by
 obtain⟨CB,CP,FB⟩:=ha;obtain⟨hc,hP,Y8,hk⟩:=ib hE;obtain⟨i0,i1,i2,i3⟩:=uA hc;have HC:Hx (kT o.kd o.k o.wd o.st o.sd o.fr o.tt o.S m nx=0):=ae (by rw[<-hc,gj.cnt,a.len,x.len,br,br]);have IM:Hx ((m:Int)=g7 o.kd):=ae (by rw[<-i3,a.len,br]);have IX:Hx (0<nx):=ae (by rw[x.len];rw[br]at i1;unfold fM at i1;split at i1<;>omega);have IN:Hx (¬o.kd=8/\¬o.kd=9/\¬o.kd=10/\¬o.kd=11/\¬o.kd=12/\¬o.kd=13/\¬o.kd=14/\¬o.kd=15->(nx:Int)=f6 o.kd/\f6 o.kd≠0/\(o.kd<=5↔nx=1)):=ae λh=>by
  obtain⟨kl,kh⟩:=ww i0;rw[br,<-x.len]at i1 i2;unfold fM at i1;unfold ia at i2;unfold f6;by_cases h6:o.kd=6\/o.kd=7
  .rw[ah h6]at i1 i2⊢;rw[ag om];omega
  .rw[ag h6]at i1 i2;rw[ag om]at i2;rw[ah om];omega
 have nT:Hx (fD o (ts.map (·.zs)) (us.map (·.zs))=V):=ae (by rw[<-hV.o,cy,ah hE]);have HK:=ae hk;have HX:=QN;have Zq:=QM;obtain⟨g4,g6⟩:=Ds hg.o;have ng4:ng<=4:=by rw[sg.len];exact g4
 obtain⟨b0,q0,A0,n0,c0,z0,B0,m0,d0,x0,rfl,YF,v0,v1,s0,t0,lc0,ld0,ix0,n04,m06,r0,e0⟩:=x.xM hU (k:=0) IX.o;have D0:Hx ((us.map (·.zs)).getD 0 []=z0):=ae (wz e0.o);simp only[jt,gE]at v0 v1;have x1:0<nx:=IX.o;have P1:∀k:Nat,k<m->∃b o O n1 c1 zs P m1 d1 xs,B=some ⟨b,o,none⟩/\Old b w/\w.cell? ⟨b,o+k*2,none⟩=some (.slice O n1 c1)/\w.cell? ⟨b,o+k*2+1,none⟩=some (.slice P m1 d1)/\Sl w O n1 zs/\Sl w P m1 xs/\Le n1 c1/\Le m1 d1/\dp xs/\n1<=4/\m1<=65536/\Hx (aJ zs xs=true)/\Hx ((ts.map Tn.tv).getD k ([],[])=(zs,xs))/\Hx ((ts.map (·.zs)).getD k []=zs):=λk hk=>by
  obtain⟨b,o,O,n1,c1,zs,P,m1,d1,xs,h1,h2,h3,h4,h5,h6,h7,h8,h9,QF,xB,Dd,IJ⟩:=a.xM hT hk;exact⟨b,o,O,n1,c1,zs,P,m1,d1,xs,h1,h2,h3,h4,h5,h6,h7,h8,h9,QF,xB,Dd,IJ,ae (wz IJ.o)⟩
 have IK:=ae P1;clear hc hP Y8 hk i0 i1 i2 i3 IX P1 hE hV QM QN g4 g6;go_enter func64,ntmps64
 go_upto_region 1 with fail
 refine IQ (λu0 u _ _ k0 kg hz k1=>?_);by_cases J:o.kd=8
 .have tE:m=2:=by have:=IM.o;rw[g7,ah J]at this;omega
  obtain⟨b1,q1,O,n1,c1,z1,P,m1,d1,M3,U,q6,Y9,Za,s1,t1,lc1,ld1,ix1,n14,m16,r1,Zb,Zc⟩:=IK.o 0 om;obtain⟨b2,q2,A2,n2,c2,z2,B2,m2,d2,QG,L,jf,Zd,Ze,s2,t2,lc2,ld2,ix2,n24,m26,r2,Zf,Zg⟩:=IK.o 1 om;subst U;injection L with L;injection L with L Y;subst L Y
  simp only[jt,gE,ny]at Y9 Za Zd Ze;have hV:=nT.o;have N:=HX.o;have T:=Zq.o;have hK:=HK.o;rw[fD,ah J]at hV;rw[qF,ah J]at N;rw[Ak,ah J]at T;rw[e4,ah J]at hK;rw[Zc.o,Zg.o,D0.o]at hV hK;rw[Zb.o,e0.o]at N T;rw[Zf.o]at T;have HG:Hx (xE z1 M3 z2 QG z0 x0 z2 g=true/\V=z2):=ae (by
   have hB:ho z1 z2 z0=true:=by
    unfold kW at hK
    split at hK
    .assumption
    .exact absurd hK ak
   rw[kV,ah hB]at hV;simp only[ho,bW,cu]at hB;obtain⟨⟨⟨⟨g1,g2⟩,g3⟩,g4⟩,g5⟩:=hB;have f0:=((bf _ _).1 r0.o).2;have e:z2=[z1.getD 0 0]:=by
    match z2,g2,g3 with
    |[y],_,g3=>rw[<-g3];rfl
   have eV:V=z2:=by rw[<-hV,e]
   refine⟨?_,eV⟩;simp only[xE,eb,kX,bW,cu];exact⟨⟨⟨⟨⟨⟨⟨r1.o,g1⟩,r2.o⟩,r0.o⟩,e⟩,by rw[f0,g5]⟩,by rw[<-eV];exact hg.o⟩,bA⟩)
  obtain rfl:=HG.o.2;have HW:Hx (∀z∈eC g x0,bo z):=ae (A4 ig.bd ix0.bd);have HY:Hx (∀z∈j1 x0.length M3 g,bo z):=ae (A5);obtain⟨WW,Zr⟩:=lg (eC g x0);obtain⟨YY,Zs⟩:=lg (j1 x0.length M3 g);rw[<-Zs]at HY N;rw[<-Zr]at HW T;have HWW:=ae Zr;have Vu:=ae Zs;have M8:=ae (And.intro N.symm T.symm);have g1:0<m:=om;have g2:(1:Int)<(m:Int):=by omega
  have h8:(o.kd==8)=true:=by simpa using J
  clear J;clear tE hV N T hK Zr Zs
  go_upto_region 6 with(first|(go_at_call 104;(with_reducible refine(fC hn HC).mono ?_);rintro e u ⟨rfl,_⟩))
  obtain⟨v,rfl⟩:=lg u
  go_cut [11,12] (λp e wx=>∃G O U P f1 A2 L B2 f2 A3 Y B3 f3,p=.pointer (some ⟨G,0,none⟩)/\e=.int .i64 0/\Bx wx G 201 #[.slice O z1 U,.slice P WW f1,.slice A2 V L,.slice B2 g f2,.slice A3 z0 Y,.slice B3 YY f3]/\TF wx v O U P f1 z1 WW/\TF wx v A2 L B2 f2 V g/\TF wx v A3 Y B3 f3 z0 YY/\aj wx v)
  case first=>
   refine aH v aq (λD _=>?_);refine ap 0 ?_;refine ap 1 ?_;refine ap 2 ?_;refine ap 3 ?_;refine ap 4 ?_;refine ap 5 ?_;refine ap 6 ?_;refine ap 7 ?_;refine ap 8 ?_;refine ap 9 ?_;refine o7 10 14 (λK hK=>?_) (λK hK=>?_)
   focus
    go_simp
    (with_reducible refine(FC om (ae HG.o.1) HWW Vu).mono ?_)
    rintro e D ⟨O,U,P,f1,A2,L,B2,f2,A3,Y,B3,f3,rfl,QO,QP,QQ,_⟩;dsimp only;refine aL hK ?_;clear hK K;refine ap 11 ?_;refine ap 12 ?_;refine ap 13 ?_;refine aM 14 λK hK=>?_;go_simp;obtain⟨g9,Q⟩:=lh ((World.heap D).size);have QR:(World.heap D).size<=g9:=by rw[<-Q];exact ai
    refine aL hK ?_;clear hK K;refine bh (λD _ Zt=>?_);rw[Q]at Zt⊢;clear Q
   rotate_left
   focus
    go_simp;obtain⟨g9,Q⟩:=lh ((World.heap D).size);have QR:(World.heap D).size<=g9:=by rw[<-Q];exact ai
    refine aL hK ?_;clear hK K;refine bh (λD _ Zt=>?_);rw[Q]at Zt⊢;clear Q;refine aM 10 λK hK=>?_;go_simp
    (with_reducible refine(FC om (ae HG.o.1) HWW Vu).mono ?_)
    rintro e D ⟨O,U,P,f1,A2,L,B2,f2,A3,Y,B3,f3,rfl,QO,QP,QQ,_⟩;dsimp only;refine aL hK ?_;clear hK K;refine ap 11 ?_;refine ap 12 ?_;refine ap 13 ?_
   all_goals
    refine aM 15 λK hK=>?_;go_simp;obtain⟨v9,j⟩:=lg (World.uD D g9 (.slice O (List.length z1) U) (.slice P (List.length WW) f1) (.slice A2 (List.length V) L) (.slice B2 (List.length g) f2) (.slice A3 (List.length z0) Y) (.slice B3 (List.length YY) f3));unfold World.uD at j;rw[<-j];have IT:Bx v9 g9 _ #[.slice O (List.length z1) U,.slice P (List.length WW) f1,.slice A2 (List.length V) L,.slice B2 (List.length g) f2,.slice A3 (List.length z0) Y,.slice B3 (List.length YY) f3]:=⟨by rw[j];exact aB.uD (Bx.al (w:=D) (g:=g9)) _ _ _ _ _ _⟩;have Dp:aj v9 v:=⟨by rw[j];exact kY (a7 v D) (aO ai QR) _ _ _ _ _ _⟩;have T1:TF v9 (World.heap v).size O U P f1 z1 WW:=by rw[j];first|exact QO.below (kY (a7 _ D) QR _ _ _ _ _ _) ai|exact(QO.QK (Bx.al (g:=g9)).lt _ _ _ _ _ _).less ai
    have T2:TF v9 (World.heap v).size A2 L B2 f2 V g:=by rw[j];first|exact QP.below (kY (a7 _ D) QR _ _ _ _ _ _) ai|exact(QP.QK (Bx.al (g:=g9)).lt _ _ _ _ _ _).less ai
    have T3:TF v9 (World.heap v).size A3 Y B3 f3 z0 YY:=by rw[j];first|exact QQ.below (kY (a7 _ D) QR _ _ _ _ _ _) ai|exact(QQ.QK (Bx.al (g:=g9)).lt _ _ _ _ _ _).less ai
    refine aL hK ?_ Dp;clear hK K j;refine ap 16 ?_;refine aZ ?_
    go_wp2_with fail
    go_meet
    exact⟨g9,O,U,P,f1,A2,L,B2,f2,A3,Y,B3,f3,rfl,rfl,IT,T1,T2,T3,Dp⟩
  case rest=>
   obtain⟨G,O,U,P,f1,A2,L,B2,f2,A3,Y,B3,f3,rfl,rfl,kG,QO,QP,QQ,pv⟩:=hcut
   go_wp2_with fail
   rw[M8.o.1,M8.o.2];exact FD (b:=v.heap.size) (x0:=.slice none 0 0) (x1:=.slice none 0 0) om rfl (λW r0 r1=>by simp[results,results64,go_sem,r0,r1]) (TF.two QO.at QP.at HW.o ig.bd ai (an _)) (TF.one QQ.at HY.o (Nat.le_succ_of_le ai) (an _)) (Bx.al (w:=v) (g:=w.heap.size+1+1)).lt
 have h8:(o.kd==8)=false:=by simpa using J
 have k9:¬o.kd=9:=by have:=hq.o;unfold f7 at this;omega
 have h9:(o.kd==9)=false:=by simpa using k9
 have l:¬o.kd=10:=by have:=hq.o;unfold f7 at this;omega
 have QF:(o.kd==10)=false:=by simpa using l
 have M:¬o.kd=11:=by have:=hq.o;unfold f7 at this;omega
 have xB:(o.kd==11)=false:=by simpa using M
 by_cases I:o.kd=12
 .have hV:=nT.o;have N:=HX.o;have T:=Zq.o;have hK:=HK.o;rw[fD,ag J,ag k9,ag l,ah (.inr I)]at hV;rw[qF,ag J,ag k9,ag l,ag M,ah I]at N;rw[Ak,ag J,ag k9,ag l]at T;rw[e4,ag J,ag k9,ag l,ah (.inr I)]at hK;rw[D0.o]at hV hK;rw[e0.o]at N;obtain⟨aa,Z,nn,W',S',hW,hS,pw⟩:=PW.of hK;rw[hV]at pw;have Zh:=ae pw;obtain⟨X,Vv⟩:=lg (tab (aa*Z) (iS 2 x0 g Z nn S' W' (aa*nn)));have Ai:=ae Vv;have HB:Hx (∀z∈X,bo z):=ae (by rw[Vv];intro z hz;obtain⟨q,_,rfl⟩:=bC.1 hz;exact wy _ _);have N:[(z0,X)]=GX:=by
   rw[<-N,Vv,Vp,hW,hS];have U:eN z0=(Z:Int):=by rw[eN,aX,pw.at_];rfl
   have L:eN V=(nn:Int):=by
    rw[eN,pw.v,ej,aX,h0 (by have:=pw.len;omega)];rfl
   have Y:x0.length=aa*Z:=by have:=((bf _ _).1 r0.o).2;rw[pw.size]at this;omega
   rw[U,L,pw.C9,Y];simp only[bI]
  have QH:=ae (And.intro hW hS);clear pw hW hS Vv;have M8:=ae (And.intro N.symm T.symm);have Dd:(o.kd==12)=true:=by simpa using I
  clear J k9 l M I;clear hV N T hK;obtain⟨rfl,rfl⟩:=M8.o
  go_upto_region 20 with(first|(go_at_call 104;(with_reducible refine(fC hn HC).mono ?_);rintro e u ⟨rfl,_⟩))
  obtain⟨r,rfl⟩:=lg u;have le1:w.heap.size+1+1<(World.heap r).size:=(Bx.al (w:=r) (g:=w.heap.size+1+1)).lt;have i6X:dp X:=⟨HB.o⟩;refine aH u0 aq (λD _=>?_);refine ap 0 ?_;refine ap 1 ?_;refine ap 2 ?_;refine ap 3 ?_;refine ap 4 ?_;refine ap 5 ?_;refine ap 6 ?_;refine ap 7 ?_;refine aM 8 λK hK=>?_;go_simp
  (with_reducible refine(M7 QH om om r0.o (.inr rfl) Zh hg.o Ai).mono ?_)
  rintro e D ⟨A',c',B',d',rfl,sA,sX,lA,lX,fA,fX,_⟩;dsimp only;refine aL hK ?_;clear hK K;refine ap 9 ?_;refine ap 10 ?_;refine aM 11 λK hK=>?_;go_simp
  (with_reducible refine(IR ai fA fX).mono ?_)
  rintro e D ⟨GG,rfl,Dt,_⟩;dsimp only;refine aL hK ?_;clear hK K;refine ap 12 ?_;refine ap 13 ?_;refine aM 14 λK hK=>?_;go_simp;obtain⟨v9,j⟩:=lg ((D.setCell ⟨w.heap.size+1+1,0,none⟩ (.slice none 0 0)).setCell ⟨w.heap.size+1+1,1,none⟩ (.slice GG 1 1));rw[<-j];have Bv9:Below (World.heap u0).size u0 v9:=by rw[j];exact cM (a7 u0 D) hz _ _
  have Sv9:∀b,b<D.heap.size->b≠w.heap.size+1+1->(World.heap v9)[b]?=D.heap[b]?:=λb _ hb=>by rw[j];exact(bm _ ⟨w.heap.size+1+1,1,none⟩ _ b hb).trans (bm _ ⟨w.heap.size+1+1,0,none⟩ _ b hb)
  have IT:Bx v9 (w.heap.size+1+1) _ #[.slice none 0 0,.slice GG 1 1]:=⟨by rw[j];exact aB.cY (Bx.al (w:=D) (g:=w.heap.size+1+1)) _ _⟩;have Dp:aj v9 u0:=⟨Bv9⟩;obtain⟨v8,rfl⟩:=lg D;have Hv9:=j;refine aL hK ?_ ⟨Bv9⟩;clear hK K j;refine ap 15 ?_;refine aZ ?_
  go_wp2_with fail
  exact uE (b:=r.heap.size) IT om Hv9 rfl (λW r0 r1=>by simp[results,results64,go_sem,r0,r1]) fv.nil (Dt.less ai) om
 have Dd:(o.kd==12)=false:=by simpa using I
 have M9:¬o.kd=13:=by have:=hq.o;unfold f7 at this;omega
 have IJ:(o.kd==13)=false:=by simpa using M9
 have Na:¬o.kd=14:=by have:=hq.o;unfold f7 at this;omega
 have h14:(o.kd==14)=false:=by simpa using Na
 have Nb:¬o.kd=15:=by have:=hq.o;unfold f7 at this;omega
 have h15:(o.kd==15)=false:=by simpa using Nb
 have hV:=nT.o;have N:=HX.o;have T:=Zq.o;have hK:=HK.o;rw[fD,ag J,ag k9,ag l,ag (show¬(o.kd=11\/o.kd=12)from λh=>h.elim M I),ag M9,ag Na,ag Nb]at hV;rw[Ak,ag J,ag k9,ag l]at T;rw[e4,ag J,ag k9,ag l,ag (show¬(o.kd=11\/o.kd=12)from λh=>h.elim M I),ag M9,ag Na,ag Nb]at hK;have Vw:=IN.o ⟨J,k9,l,M,I,M9,Na,Nb⟩;have ul:0<us.length:=by have:=x.len;omega
 have HG:Hx (gR o.kd us=0/\V=lF us/\z0=V/\x0=hA us):=ae (by
  have hn:(us.length:Int)=f6 o.kd:=by rw[<-x.len];exact Vw.1
  have e9:lF us=z0:=by rw[<-D0.o,lF,aX,bj]
  have iQ:z0=V:=by
   rw[<-hV];exact jg hK z0 (by rw[<-D0.o,aX,bj,bc ul];exact bC.2 ⟨_,nb ul,rfl⟩)
  refine⟨?_,by rw[e9,iQ],iQ,?_⟩
  .unfold gR;rw[ag Vw.2.1,ah hn,ah];rw[cZ];intro t ht;unfold Ah;rw[(hU.o t ht).1,e9,iQ,<-hV];simpa using jg hK t.zs (bC.2 ⟨t,ht,rfl⟩)
  .have e:=e0.o;rw[aX,bj,bc ul]at e;rw[hA,bc ul];exact(cv (·.2) e).symm)
 have HZ:Hx (∀t∈us,t.zs.length<=1000000):=ae λt ht=>by have:=hU.o.len ht;omega
 have Yk:=ae T.symm;have qv:=ae HG.o.1;have mZ:=ae HG.o.2.1;obtain rfl:=Yk.o;have h5:¬o.kd<=5:=by have:=hq.o;unfold f7 at this;omega
 have ER:Hx (nx=2):=ae (by have h1:=Vw.1;unfold f6 at h1;split at h1<;>(try split at h1)<;>omega);rw[qF,ag J,ag k9,ag l,ag M,ag I,ag M9,ag Na,ag Nb,ag h5,e0.o,Vr,Vs,HG.o.2.2.1]at N;have Ai:Hx (GX=[(V,mA o.kd o.k us g (hA us).length),(V,mX o.kd us g (hA us).length)]):=ae (by rw[<-N,<-HG.o.2.2.2]);obtain rfl:=Ai.o;clear J k9 l M I M9 Na Nb hV N T hK Vw h5 ul
 go_upto_region 27 with(first|(go_at_call 104;(with_reducible refine(fC hn HC).mono ?_);rintro e u ⟨rfl,_⟩))
 obtain rfl:=ER.o
 go_wp2_with (first|(go_at_call 114;refine(IS om HZ qv hg.o mZ mZ (ae rfl) (ae rfl)).mono ?_;rintro e u ⟨PA,pn,pc,rfl,Dt,_⟩)|(go_at_call 110;refine(Fz rfl).mono ?_;rintro e u ⟨rfl,_⟩))
 exact FD (x0:=.slice none 0 0) (x1:=.slice none 0 0) om rfl (λW r0 r1=>by simp[results,results64,go_sem,r0,r1]) fv.nil Dt.at (Bx.al (g:=w.heap.size+1+1)).lt
end
end
end
variable{O:List Int}{z:Int}
section
set_option linter.unusedVariables false
def TV.ok(t:TV):Prop:=aJ t.1 t.2=true/\∀z∈t.2,bo z
section
variable{o:gj}{ps xs:List TV}
def dP{L:List TV}{k:Nat}:(L.map (·.1)).getD k []=(L.getD k ([],[])).1:=by
 rw[aX,aX,bj];cases L[k]?<;>rfl
def h6{L:List TV}{k:Nat}(h:k<L.length):L.getD k ([],[])∈L:=by
 rw[aX,bc h];exact nb h
def TV.ok.len{t:TV}(h:TV.ok t):(t.2.length:Int)=aN t.1:=((bf _ _).1 h.1).2
def TV.ok.right{t:TV}(h:TV.ok t):aA t.1=true:=((bf _ _).1 h.1).1
def sF{α:Type}{f:α->Int}(b:∀x,bo (f x)){L:List α}:∀z∈L.map f,bo z:=λz e=>by
 obtain⟨x,_,rfl⟩:=bC.1 e;exact b x
def Nc{a:List Int}:∀z∈a.zipWith cA O,bo z:=λz j=>by
 obtain⟨i,hi⟩:=eA j;rw[List.getElem?_zipWith]at hi;cases e:a[i]? with
 |none=>rw[e]at hi;simp at hi
 |some x=>
  cases hb:O[i]? with
  |none=>rw[e,hb]at hi;simp at hi
  |some y=>rw[e,hb]at hi;simp at hi;rw[<-hi];exact jI _ _
def A6:bo 0:=⟨ak,ak⟩
def Nf{W:Nat}{l:List Int}(h:∀b∈l,bo b):bo (hh z W l):=by
 unfold hh
 split
 .cases l with
  |nil=>exact A6
  |cons x t=>exact h _ (AN aG).1
 .exact En (wU _) (Er _)
def WY{xs:List Tn}(h:∀t∈xs,∀z∈t.xs,bo z)(i:Nat):bo (sec xs i):=by
 unfold sec;cases b:xs[1]? with
 |none=>exact A6
 |some t=>exact pq (h t (aC b)) i
def WZ{xs:List Tn}(h:∀t∈xs,∀z∈t.xs,bo z):∀z∈hA xs,bo z:=by
 unfold hA;cases b:xs[0]? with
 |none=>intro z e;simp at e
 |some t=>exact h t (aC b)
def sG(h:∀t∈xs,TV.ok t):∀t∈xs.map sE,∀z∈t.xs,bo z:=λt ht=>by
 obtain⟨v,hv,rfl⟩:=bC.1 ht;exact(h v hv).2
def Vx(hE:da o (ps.map (·.1)) (xs.map (·.1))=0)(hq:f7 o)(hp:∀t∈ps,TV.ok t)(F:∀t∈xs,TV.ok t)(Q:bo o.k):TV.ok (cy o (ps.map (·.1)) (xs.map (·.1)),xL o ps xs):=by
 obtain⟨R,-,-,hK⟩:=ib hE;obtain⟨U,i1,i2,i3⟩:=uA R;have G:=l4 hE;rw[br]at i1 i2 i3;obtain⟨V,hV⟩:=lh (cy o (ps.map (·.1)) (xs.map (·.1)));rw[hV]at G⊢;have I:=hV;rw[cy,ah hE]at hV;have J:0<xs.length:=by unfold fM at i1;split at i1<;>omega
 have C:=F _ (h6 J);have D:=C.len
 suffices h:((xL o ps xs).length:Int)=aN V/\∀z∈xL o ps xs,bo z from⟨(bf _ _).2 ⟨G,h.1⟩,h.2⟩
 unfold xL;rw[I];by_cases j:o.kd=8
 .rw[g7,ah j]at i3;rw[ah j];rw[e4,ah j,dP,dP,dP]at hK;rw[fD,ah j,dP,dP,dP]at hV;have K:=hp _ (h6 (L:=ps) (k:=1) om);have M:ho (ps.getD 0 ([],[])).1 (ps.getD 1 ([],[])).1 (xs.getD 0 ([],[])).1=true:=by
   unfold kW at hK
   split at hK
   .assumption
   .exact absurd hK ak
  rw[kV,ah M]at hV;simp only[ho,bW,cu]at M;obtain⟨⟨⟨⟨X,S⟩,N⟩,Y⟩,Z⟩:=M;have e:(ps.getD 1 ([],[])).1=V:=by
   rw[<-hV]
   match(ps.getD 1 ([],[])).1,S,N with
   |[y],_,N=>rw[<-N];rfl
  refine⟨by rw[fZ,K.len,e],sF λi=>jI _ _⟩
 rw[ag j];have O:¬o.kd=9:=by have:=hq;unfold f7 at this;omega
 rw[ag O];have l:¬o.kd=10:=by have:=hq;unfold f7 at this;omega
 rw[ag l];have E:¬o.kd=11:=by have:=hq;unfold f7 at this;omega
 rw[ag E];by_cases m:o.kd=12
 .rw[ah m];exact⟨by rw[Vf,jB];have:=(cV G);obtain⟨n,K,h2,h3⟩:=this;rw[K];simp,sF λi=>Nf λz T=>C.2 z (dC (cG T))⟩
 rw[ag m];have b:¬(o.kd=11\/o.kd=12):=λh=>h.elim E m;have r:¬o.kd=13:=by have:=hq;unfold f7 at this;omega
 rw[ag r];have u:¬o.kd=14:=by have:=hq;unfold f7 at this;omega
 rw[ag u];have B:¬o.kd=15:=by have:=hq;unfold f7 at this;omega
 rw[ag B];rw[e4,ag j,ag O,ag l,ag b,ag r,ag u,ag B]at hK;rw[fD,ag j,ag O,ag l,ag b,ag r,ag u,ag B]at hV;have P:=jg hK (xs.getD 0 ([],[])).1 (by rw[<-dP,aX,bj,bc J];exact bC.2 ⟨_,nb J,rfl⟩);rw[hV]at P;rw[P]at D;exact⟨by rw[l5,D],sF λi=>MV Q (pq (WZ (sG F)) i) (WY (sG F) i)⟩
end
end
variable{zs:List Int}
section
set_option linter.unusedVariables false
section
variable{o:gj}{ps xs:List TV}{V g:List Int}
def Vy{L:List TV}(h:L.length=1):L=[L.getD 0 ([],[])]:=by
 match L,h with
 |[x],_=>rfl
def KZ{L:List TV}(h:L.length=2):L=[L.getD 0 ([],[]),L.getD 1 ([],[])]:=by
 match L,h with
 |[x,y],_=>rfl
def tJ{xs:List Int}(hr:aA zs=true)(b:(xs.length:Int)=aN zs)(hb:∀z∈xs,bo z):TV.ok (zs,xs):=⟨(bf _ _).2 ⟨hr,b⟩,hb⟩
def K0(hE:da o (ps.map (·.1)) (xs.map (·.1))=0)(hq:f7 o)(hp:∀t∈ps,TV.ok t)(C:∀t∈xs,TV.ok t)(hV:cy o (ps.map (·.1)) (xs.map (·.1))=V)(hg:TV.ok (V,g)):
  (Ak o ps xs V g).map (·.1)=ps.map (·.1)/\∀t∈Ak o ps xs V g,TV.ok t:=by
 obtain⟨D,-,-,hK⟩:=ib hE;obtain⟨K,i1,i2,i3⟩:=uA D;rw[br]at i1 i2 i3;rw[cy,ah hE]at hV;have E:0<xs.length:=by unfold fM at i1;split at i1<;>omega
 have j:=C _ (h6 E);unfold Ak;by_cases b:o.kd=8
 .rw[g7,ah b]at i3;rw[ah b];rw[e4,ah b,dP,dP,dP]at hK;rw[fD,ah b,dP,dP,dP]at hV;have F:=hp _ (h6 (L:=ps) (k:=0) om);have m:ho (ps.getD 0 ([],[])).1 (ps.getD 1 ([],[])).1 (xs.getD 0 ([],[])).1=true:=by
   unfold kW at hK
   split at hK
   .assumption
   .exact absurd hK ak
  rw[kV,ah m]at hV;simp only[ho,bW,cu]at m;obtain⟨⟨⟨⟨G,I⟩,r⟩,M⟩,J⟩:=m;have e:(ps.getD 1 ([],[])).1=V:=by
   rw[<-hV]
   match(ps.getD 1 ([],[])).1,I,r with
   |[y],_,r=>rw[<-r];rfl
  have u:aN (ps.getD 0 ([],[])).1=aN V*aN (xs.getD 0 ([],[])).1:=by
   rw[J,<-hV]
   match(ps.getD 0 ([],[])).1,G with
   |[y,z],_=>simp[aN]
  refine⟨?_,λt ht=>?_⟩
  .conv=>rhs;rw[KZ (L:=ps) om]
   rfl
  .simp only[bT,kG,lN]at ht;rcases ht with rfl|rfl
   .exact tJ F.right (by rw[qE,mm,hg.len,j.len,u]) (A4 hg.2 j.2)
   .rw[e];exact hg
 rw[ag b];have B:¬o.kd=9:=by have:=hq;unfold f7 at this;omega
 rw[ag B];have l:¬o.kd=10:=by have:=hq;unfold f7 at this;omega
 rw[ag l];rw[g7,ag b,ag (λh=>h.elim B l)]at i3;obtain rfl:ps=[]:=jY om;exact⟨rfl,λt ht=>by cases ht⟩
def FE(hE:da o (ps.map (·.1)) (xs.map (·.1))=0)(hq:f7 o)(C:∀t∈xs,TV.ok t)(K:bo o.k)(hV:cy o (ps.map (·.1)) (xs.map (·.1))=V)(hg:TV.ok (V,g)):
  (qF o ps xs V g).map (·.1)=xs.map (·.1)/\∀t∈qF o ps xs V g,TV.ok t:=by
 obtain⟨M,-,-,hK⟩:=ib hE;obtain⟨N,i1,i2,i3⟩:=uA M;rw[br]at i1 i2 i3;rw[cy,ah hE]at hV;have F:0<xs.length:=by unfold fM at i1;split at i1<;>omega
 have b:=C _ (h6 F);have one:¬(o.kd=6\/o.kd=7)->o.kd≠13->∀c:List Int,(c.length:Int)=aN (xs.getD 0 ([],[])).1->(∀z∈c,bo z)->[((xs.getD 0 ([],[])).1,c)].map (·.1)=xs.map (·.1)/\∀t∈[((xs.getD 0 ([],[])).1,c)],TV.ok t:=λO D c P hb=>by
  rw[ia,ag O,ag D]at i2;refine⟨?_,λt ht=>?_⟩
  .conv=>rhs;rw[Vy (L:=xs) om]
   rfl
  .rw[cF.1 ht];exact tJ b.right P hb
 unfold qF;by_cases E:o.kd=8
 .rw[ah E];exact one om om _ (by rw[<-b.len];simp[j1]) A5
 rw[ag E];have G:¬o.kd=9:=by have:=hq;unfold f7 at this;omega
 rw[ag G];have m:¬o.kd=10:=by have:=hq;unfold f7 at this;omega
 rw[ag m];have r:¬o.kd=11:=by have:=hq;unfold f7 at this;omega
 rw[ag r];by_cases e:o.kd=12
 .rw[ah e];exact one om om _ (by rw[Vp,gQ,b.len]) (sF λi=>wy _ _)
 rw[ag e];have j:¬(o.kd=11\/o.kd=12):=λh=>h.elim r e;have l:¬o.kd=13:=by have:=hq;unfold f7 at this;omega
 rw[ag l];have u:¬o.kd=14:=by have:=hq;unfold f7 at this;omega
 rw[ag u];have y:¬o.kd=15:=by have:=hq;unfold f7 at this;omega
 rw[ag y];rw[e4,ag E,ag G,ag m,ag j,ag l,ag u,ag y]at hK;have I:∀z∈mA o.kd o.k (xs.map sE) g (xs.getD 0 ([],[])).2.length,bo z:=KX K (WY (sG C)) hg.2;have Q:∀z∈mX o.kd (xs.map sE) g (xs.getD 0 ([],[])).2.length,bo z:=KY (WZ (sG C)) hg.2;obtain⟨T,U⟩:=ww N;by_cases J:o.kd<=5
 .rw[ah J];exact one om l _ (by rw[jR,b.len]) I
 .rw[ag J];have B:o.kd=6\/o.kd=7:=om;rw[fM,ah B]at i1;rw[ia,ah B]at i2;have D:xs.length=2:=om;have R:=jg hK (xs.getD 0 ([],[])).1 (bC.2 ⟨_,h6 F,rfl⟩);have S:=jg hK (xs.getD 1 ([],[])).1 (bC.2 ⟨_,h6 om,rfl⟩);refine⟨?_,λt ht=>?_⟩
  .conv=>rhs;rw[KZ D]
   simp only[dX,jZ,R,S]
  .simp only[bT,kG,lN]at ht;rcases ht with rfl|rfl
   .exact tJ b.right (by rw[jR,b.len]) I
   .exact tJ b.right (by rw[l6,b.len]) Q
end
end
