/- Lemmas. No condition. -/
import Derived.Test.YtmkjnlifimffkaaGreatS06
namespace Go.Proofs.YtmkjnlifimffkaaGreat
open Go.RowKit
set_option linter.all false
set_option maxRecDepth 100000
set_option maxHeartbeats 16000000
def BS(w:World)(B:Nat)(E:TypeId)(k:Nat)(A:Option Addr)(n:Nat)(vs:List Value)(e:Ending)(w':World):Prop:=∃A' c',e=.returned (.slice A' n c')/\aP w' B E k A' c' n vs/\bS A A' w w'
section
variable{w:World}{A:Option Addr}{B g c n i:Nat}{vs us:List Value}
theorem agd(h:aP w B 308 2 A c n vs){vb:Nat}(hb:aD w vb 308 us.toArray)(r:us.length=2)(l:∀u∈us,u.oneCell'=true)(G:n<=16777216)(y:B<=w.heap.size):
  Calls Tryz.prog 248 #[.slice A n c,n,.slice vb 1 1] w (BS w B 308 2 A (n+1) (vs++us)):=by
 obtain⟨A',c',I,hr,C,D⟩:=QD (P:=Tryz.prog) h 309 309 aj 16 (z:=.agg #[(0:Int),(0:Int)]) aj (by rfl) ah ah hb r l om y;have b:Tryz.prog.underlying 309=some (.slice (Tryz.prog.elem 309)):=aj;have e:∀W,(sizeOf (Tryz.prog.elem 309)).run Tryz.prog W=.ok 2 W:=fun W=>by
  obtain⟨J,E,F⟩:=bN.1 (show(Tryz.prog.info? (Tryz.prog.elem 309)).map (·.size)=some 2 from by kernel_rfl);simp[sizeOf,typeInfo,E,F]
 have j:∃m,∀W,(Instr.slice 309 (.slice A n c) (some (.int .i64 (n:Int))) none none).run Tryz.prog W=.ok (.slice m 0 (c-n)) W:=⟨if c=n then A else A.map (·.add (n*2)),fun W=>by
  rw[j4 W 309 A n c b .i64 n om om,e];cases A<;>simp[Result.andThen,sliced]⟩
 obtain⟨m,j⟩:=j;clear b e;go_enter Tryz.func248,Tryz.ntmps248
 go_wp2_with (at_builtin;refine Lib.wpList_append_run _ rfl _ _ 309 309 rfl _ _ rfl rfl _ _ hr ?_)
 go_ret;exact⟨A',c',rfl,C,D⟩
theorem age(h:aP w B 308 2 (some ⟨g,0,none⟩) c n vs)(h1:∀v∈vs,v.oneCell'=true){vb:Nat}(hb:aD w vb 308 us.toArray)(M:us.length=2)(Dy:∀u∈us,u.oneCell'=true)(hv:vb≠g)(hi:i<n)(hr:n+1<=c)(hn:n<=16777216):
  Calls Tryz.prog 248 #[.slice g n c,i,.slice vb 1 1] w (BS w B 308 2 (some ⟨g,0,none⟩) (n+1) (vs.take (i*2)++us++vs.drop (i*2))):=by
 obtain⟨cur,hg,hB,hle,hm,U,ht,N⟩:=h.whole;have hvl:vs.length=n*2:=h.1;have r:Tryz.prog.underlying 309=some (.slice (Tryz.prog.elem 309)):=aj;have b:Tryz.prog.underlying 309=some (.slice 308):=aj;have C:(Tryz.prog.info? 308).map (·.size)=some 2:=aj;have F:∀W,(sizeOf 308).run Tryz.prog W=.ok 2 W:=fun W=>by
  obtain⟨ii,I,y⟩:=bN.1 C;simp[sizeOf,typeInfo,I,y]
 have z:∀W,(sizeOf (Tryz.prog.elem 309)).run Tryz.prog W=.ok 2 W:=fun W=>by
  obtain⟨ii,I,y⟩:=bN.1 (show(Tryz.prog.info? (Tryz.prog.elem 309)).map (·.size)=some 2 from by kernel_rfl);simp[sizeOf,typeInfo,I,y]
 have QF:c<=9223372036854775807:=by unfold maxLen at hm;omega
 have hs0:∀W,(Instr.slice 309 (.slice g n c) (some (.int .i64 (i:Int))) none none).run Tryz.prog W=.ok (.slice (some ⟨g,i*2,none⟩) (n-i) (c-i)) W:=fun W=>by
  rw[j4 W 309 (some ⟨g,0,none⟩) n c r .i64 i om om,z];have O:¬c=i:=om;simp[Result.andThen,sliced,O,eu]
 have hs1:∀W,(Instr.slice 309 (.slice g n c) none (some (.int .i64 ((n:Int)+1))) none).run Tryz.prog W=.ok (.slice g (n+1) c) W:=fun W=>by
  rw[zU W 309 (some ⟨g,0,none⟩) n c r .i64 ((n:Int)+1) om om,z];have e:((n:Int)+1).toNat=n+1:=by omega
  simp[Result.andThen,sliced,Addr.add,e]
 have hs2:∀W,(Instr.slice 309 (.slice g (n+1) c) (some (.int .i64 ((i:Int)+1))) none none).run Tryz.prog W=.ok (.slice (some ⟨g,(i+1)*2,none⟩) (n-i) (c-(i+1))) W:=fun W=>by
  rw[j4 W 309 (some ⟨g,0,none⟩) (n+1) c r .i64 ((i:Int)+1) om om,z];have e:((i:Int)+1).toNat=i+1:=by omega
  have O:¬c=i+1:=om;have h2:n+1-(i+1)=n-i:=om;simp[Result.andThen,sliced,O,e,h2,eu]
 have hs3:∀W,(Instr.slice 309 (.slice g (n+1) c) (some (.int .i64 (i:Int))) none none).run Tryz.prog W=.ok (.slice (some ⟨g,i*2,none⟩) (n+1-i) (c-i)) W:=fun W=>by
  rw[j4 W 309 (some ⟨g,0,none⟩) (n+1) c r .i64 i om om,z];have O:¬c=i:=om;simp[Result.andThen,sliced,O,eu]
 have hov:∀lb cb,(callFunc 277 #[.slice vb 1 1,.slice (some ⟨g,(i+1)*2,none⟩) lb cb]).run Tryz.prog w=.ok (.value (.bool false)) w:=fun lb cb=>by
  rw[run_callFunc_extern Tryz.func277 aj aj aj (e:=Extern.SlicesOverlaps.overlaps #[309,309] #[4]) aj,
   Lib.run_overlaps_apart w 309 4 308 b 2 F ⟨vb,0,none⟩ ⟨g,(i+1)*2,none⟩ 1 1 lb cb hv 308 308 2 (c*2) (by have:=hb;unfold aD at this;simp[World.shape?,this,M]) (by simp[World.shape?,hg,U]) om (hb.frozen _) (hb.frozen _)]
  rfl
 have l:(vs.drop (i*2)).length=(n-i)*2:=by rw[jY,hvl];omega
 have G:∀J,(Builtin.copy_ #[309,309] J #[.slice (some ⟨g,(i+1)*2,none⟩) (n-i) (c-(i+1)),.slice (some ⟨g,i*2,none⟩) (n+1-i) (c-i)]).run Tryz.prog w.drew=.ok (goInt ((n-i:Nat):Int)) (w.drew.setRow g (cur.toList.take ((i+1)*2)++vs.drop (i*2)++cur.toList.drop ((i+1)*2+(vs.drop (i*2)).length)).toArray):=fun J=>by
  have:=yR (P:=Tryz.prog) (w:=w.drew) (E:=308) (k:=2) (g:=g) (o:=(i+1)*2) (cs:=vs.drop (i*2)) (cur:=cur) 309 309 J (n-i) (c-(i+1)) ⟨g,i*2,none⟩ (n+1-i) (c-i) b C hg (by rw[l,Aa om]) (fun j v V=>by
   rw[lD]at V;obtain⟨g2,y,K⟩:=h.cell V;injection y with y;injection y with y;subst y
   rw[eu];exact K) (by rw[l,U];omega) (fun v hv=>h1 v (jo hv))
  rw[Aa (show n-i<=n+1-i by omega)]at this;exact this
 obtain⟨X,Z⟩:=lg ((cur.toList.take ((i+1)*2)++vs.drop (i*2)++cur.toList.drop ((i+1)*2+(vs.drop (i*2)).length)).toArray);rw[<-Z]at G;have m:cur.toList.length=c*2:=by rw[qx];exact U
 have D:X.size=c*2:=by rw[Z,zP,cu,cu,dO,l,jY,m];omega
 have L:X.toList.take ((n+1)*2)=cur.toList.take ((i+1)*2)++vs.drop (i*2):=by
  rw[Z,lu (by rw[cu,dO,l,m];omega),dB (by rw[cu,dO,l,m];omega)]
 have Q:=nX (w:=w.drew) hg X;obtain⟨Y,hY⟩:=lg ((X.toList.take (i*2)++us++X.toList.drop (i*2+us.length)).toArray);have R:Y.size=c*2:=by rw[hY,zP,cu,cu,dO,jY,qx,D,M];omega
 have S:Y.toList.take ((n+1)*2)=vs.take (i*2)++us++vs.drop (i*2):=by
  have I:X.toList.take (i*2)=vs.take (i*2):=by
   have:=eD (List.take (i*2)) L;rw[kM,iY om,lu (by rw[dO,m];omega),kM,iY om]at this;rw[this,<-ht,kM,iY om]
  have y:(X.toList.take ((n+1)*2)).drop (i*2+us.length)=vs.drop (i*2):=by
   rw[L,M,Db (by rw[dO,m];omega)]
  have e3:(X.toList.take (i*2)++us).length=i*2+us.length:=by rw[cu,dO,qx,D];omega
  rw[hY]
  show List.take ((n+1)*2) (X.toList.take (i*2)++us++X.toList.drop (i*2+us.length))=_
  rw[Hz,e3,dB (by rw[e3,M];omega),<-y,I,Hw]
 have T:∀(W:World),W.heap=(w.drew.setRow g X).heap->∀J,(Builtin.copy_ #[309,309] J #[.slice (some ⟨g,i*2,none⟩) (n+1-i) (c-i),.slice vb 1 1]).run Tryz.prog W=.ok (goInt 1) (W.setRow g Y):=fun W hW J=>by
  have:=yR (P:=Tryz.prog) (w:=W) (E:=308) (k:=2) (g:=g) (o:=i*2) (cs:=us) (cur:=X) 309 309 J (n+1-i) (c-i) ⟨vb,0,none⟩ 1 1 b C (by rw[hW];exact Q) (by simp only[M,yQ (show 1<=n+1-i by omega),De]) (fun j v V=>by
   rw[eu,fo];have I:W.heap[vb]?=some (.cells us.toArray 308 (0,0)):=by rw[hW,mK hv];exact hb
   simp[World.cell?,I];simpa using V) (by rw[M,D];omega) Dy
  rw[yQ (show 1<=n+1-i by omega)]at this;rw[hY];exact this
 have Ad:=ae R;have Dz:=ae S;have mixed:Tryz.prog.follows .mixedOrders=true:=aj;clear hY R S Z D L m l r z b F C U ht h1 h;have hz2:((i:Int)==(n:Int))=false:=by simp;omega
 have hz3:decide ((c:Int)<(n:Int)+1)=false:=by simp;omega
 have hw1:IntKind.i64.wrap ((i:Int)+1)=(i:Int)+1:=by rw[bF];omega
 go_enter Tryz.func248,Tryz.ntmps248
 go_wp2_with (simp only[hov])
 go_region_law_o (refine Dx rfl _ _ 309 309 rfl _ _ (by simp[Act.eval,Act.put]) (by simp[Act.eval,Act.put]) (G _) ?_)
 go_wp2_with (at_builtin;refine Mr _ rfl _ _ 309 309 rfl _ _ rfl rfl (T _ rfl _) ?_)
 go_ret;refine⟨some ⟨g,0,none⟩,c,rfl,?_,((bS.refl _ w).drew.trans (xw (w:=w.drew) N X)).trans (xw (by rw[size_setRow];exact N) _)⟩;exact .mk' hB (nX Q Y) hr hm Ad.out Dz.out
theorem agf(h:aP w B 308 2 (some ⟨g,0,none⟩) n n vs)(h1:∀v∈vs,v.oneCell'=true){vb:Nat}(hb:aD w vb 308 us.toArray)(hl:us.length=2)(Dy:∀u∈us,u.oneCell'=true)(hi:i<n)(hn:n<=16777216)(hB:B<=w.heap.size):
  Calls Tryz.prog 248 #[.slice g n n,.int .i64 (i:Int),.slice vb 1 1] w (BS w B 308 2 (some ⟨g,0,none⟩) (n+1) (vs.take (i*2)++us++vs.drop (i*2))):=by
 obtain⟨cur,hg,-,-,hm,hc,ht,hgl⟩:=h.whole;have C:vs.length=n*2:=h.1;have D:Tryz.prog.underlying 309=some (.slice (Tryz.prog.elem 309)):=aj;have r:Tryz.prog.underlying 309=some (.slice 308):=aj;have N:(Tryz.prog.info? 308).map (fun i=>(i.zero,i.size,i.bytes))=some (some (.agg #[(0:Int),(0:Int)]),2,16):=by kernel_rfl
 have R:(Tryz.prog.info? 308).map (·.size)=some 2:=aj;obtain⟨ii,Z,hzz⟩:=bN.1 N;simp only[jZ]at hzz;obtain⟨hz0,S,T⟩:=hzz;have F:∀W,(sizeOf (Tryz.prog.elem 309)).run Tryz.prog W=.ok 2 W:=fun W=>by
  obtain⟨ii,e1,z⟩:=bN.1 (show(Tryz.prog.info? (Tryz.prog.elem 309)).map (·.size)=some 2 from by kernel_rfl);simp[sizeOf,typeInfo,e1,z]
 have hs0:∀W,(Instr.slice 309 (.slice g n n) (some (.int .i64 (i:Int))) none none).run Tryz.prog W=.ok (.slice (some ⟨g,i*2,none⟩) (n-i) (n-i)) W:=fun W=>by
  rw[j4 W 309 (some ⟨g,0,none⟩) n n D .i64 i om om,F];have h0:¬n=i:=om;simp[Result.andThen,sliced,h0,eu]
 have hs1:∀W,(Instr.slice 309 (.slice g n n) none (some (.int .i64 (i:Int))) none).run Tryz.prog W=.ok (.slice g i n) W:=fun W=>by
  rw[zU W 309 (some ⟨g,0,none⟩) n n D .i64 i om om,F];simp[Result.andThen,sliced,Addr.add]
 have hkk:(n:Int)+1-(i:Int)=((n+1-i:Nat):Int):=by omega
 have U:i+(n+1-i)=n+1:=om;have O:(Builtin.firstCells ii.size i (.slice g i n)).run Tryz.prog w.drew=.ok (vs.take (i*2)).toArray w.drew:=by
  rw[S];exact PK w.drew 2 i ⟨g,0,none⟩ i n (vs.take (i*2)) (by rw[dO,C];omega) (fun j v L=>by
   rw[eu,fo];rw[l7]at L
   split at L
   ·obtain⟨g2,z,m⟩:=h.cell L;injection z with z;injection z with z;subst z
    exact m
   ·cases L)
 obtain⟨G,hG⟩:=lg (grownCap w (n+1) n 308);obtain⟨l,y⟩:∃l:Array Value,l=(vs.take (i*2)).toArray++Builtin.zeroCells (Value.cells (.agg #[(0:Int),(0:Int)])) (n+1-i)++Builtin.zeroCells (Value.cells (.agg #[(0:Int),(0:Int)])) (G-(n+1)):=⟨_,rfl⟩;have hrz:∀I,(Builtin.append_ #[309,3] I #[.slice g i n,.int .i64 ((n:Int)+1-(i:Int))]).run Tryz.prog w=
   .ok (.slice w.heap.size (n+1) G) (w.drew.alloc (.cells l 308)):=fun I=>by
  have h:=Lib.run_append_grow_zeros (P:=Tryz.prog) w 309 3 I 308 ii _ .i64 .i64 r aj Z hz0 (some ⟨g,0,none⟩) i n (vs.take (i*2)) O (n+1-i) om (by rw[S];decide) om om (by rw[T];omega) (by rw[T,U];exact PZ om om);rw[U]at h;rw[hkk,hG,y,hG];exact h
 have hGn:n+1<=G:=by rw[hG];exact Dj w _ _ _
 have hG63:G<=maxLen:=by rw[hG];exact Fa w (n+1) n 308 (by unfold maxLen;omega)
 have V:l.size=G*2:=by
  rw[y];simp[Builtin.zeroCells,Value.cells,C];omega
 have Io:l.toList.take (i*2)=vs.take (i*2):=by
  rw[y];simp only[PI];rw[jX,qz (by simp[C];omega)]
 have hn2:∀W,(Instr.slice 309 (.slice w.heap.size (n+1) G) (some (.int .i64 (i:Int))) none none).run Tryz.prog W=.ok (.slice (some ⟨w.heap.size,i*2,none⟩) (n+1-i) (G-i)) W:=fun W=>by
  rw[j4 W 309 (some ⟨w.heap.size,0,none⟩) (n+1) G D .i64 i om om,F];have h0:¬G=i:=om;simp[Result.andThen,sliced,h0,eu]
 have hn3:∀W,(Instr.slice 309 (.slice w.heap.size (n+1) G) (some (.int .i64 ((i:Int)+1))) none none).run Tryz.prog W=.ok (.slice (some ⟨w.heap.size,(i+1)*2,none⟩) (n-i) (G-(i+1))) W:=fun W=>by
  rw[j4 W 309 (some ⟨w.heap.size,0,none⟩) (n+1) G D .i64 ((i:Int)+1) om om,F];have e:((i:Int)+1).toNat=i+1:=by omega
  have h0:¬G=i+1:=om;have h2:n+1-(i+1)=n-i:=om;simp[Result.andThen,sliced,h0,e,h2,eu]
 obtain⟨W1,J⟩:=lg (w.drew.alloc (.cells l 308));rw[<-J]at hrz;have p1:ak W1 w:=J▸⟨((bq _ w).drew).alloc (az _) _⟩;have k1:W1.heap[w.heap.size]?=some (.cells l 308 (0,0)):=by rw[J];exact xe w.drew _
 have k2:aD W1 vb 308 us.toArray:=hb.keep p1.st;have k3:aP W1 B 308 2 (some ⟨g,0,none⟩) n n vs:=h.keep p1.st;have s1:W1.heap.size=w.heap.size+1:=by rw[J];simp
 have Q:∀(W:World),W.heap=W1.heap->∀I,(Builtin.copy_ #[309,309] I #[.slice (some ⟨w.heap.size,i*2,none⟩) (n+1-i) (G-i),.slice vb 1 1]).run Tryz.prog W=.ok (goInt 1) (W.setRow w.heap.size (l.toList.take (i*2)++us++l.toList.drop (i*2+us.length)).toArray):=fun W hW I=>by
  have:=yR (P:=Tryz.prog) (w:=W) (E:=308) (k:=2) (g:=w.heap.size) (o:=i*2) (cs:=us) (cur:=l) 309 309 I (n+1-i) (G-i) ⟨vb,0,none⟩ 1 1 r R (by rw[hW];exact k1) (by simp only[hl,yQ (show 1<=n+1-i by omega),De]) (fun j v L=>by
   rw[eu,fo];have e1:W.heap[vb]?=some (.cells us.toArray 308 (0,0)):=by rw[hW];exact k2
   simp[World.cell?,e1];simpa using L) (by rw[hl,V];omega) Dy
  rw[yQ (show 1<=n+1-i by omega)]at this;exact this
 obtain⟨X,hX⟩:=lg ((l.toList.take (i*2)++us++l.toList.drop (i*2+us.length)).toArray);rw[<-hX]at Q;have M:X.size=G*2:=by rw[hX,zP,cu,cu,dO,jY,qx,hl,V];omega
 have Ip:X.toList.take ((i+1)*2)=vs.take (i*2)++us:=by
  rw[hX]
  show List.take ((i+1)*2) (l.toList.take (i*2)++us++l.toList.drop (i*2+us.length))=_
  rw[Io,qz (by rw[cu,dO,C,hl];omega)]
 have K:(vs.drop (i*2)).length=(n-i)*2:=by rw[jY,C];omega
 have k4:(W1.setRow w.heap.size X).heap[w.heap.size]?=some (.cells X 308 (0,0)):=nX k1 X;have hgN:g≠w.heap.size:=om;obtain⟨Y,hY⟩:=lg ((X.toList.take ((i+1)*2)++vs.drop (i*2)++X.toList.drop ((i+1)*2+(vs.drop (i*2)).length)).toArray);have hYs:Y.size=G*2:=by rw[hY,zP,cu,cu,dO,K,jY,qx,M];omega
 have Iq:Y.toList.take ((n+1)*2)=vs.take (i*2)++us++vs.drop (i*2):=by
  rw[hY]
  show List.take ((n+1)*2) (X.toList.take ((i+1)*2)++vs.drop (i*2)++X.toList.drop ((i+1)*2+(vs.drop (i*2)).length))=_
  rw[qz (by rw[cu,dO,qx,M,K];omega),Ip]
 have hcpB:∀(W:World),W.heap=(W1.setRow w.heap.size X).heap->∀I,(Builtin.copy_ #[309,309] I #[.slice (some ⟨w.heap.size,(i+1)*2,none⟩) (n-i) (G-(i+1)),.slice (some ⟨g,i*2,none⟩) (n-i) (n-i)]).run Tryz.prog W=.ok (goInt ((n-i:Nat):Int)) (W.setRow w.heap.size Y):=fun W hW I=>by
  have k5:aP W B 308 2 (some ⟨g,0,none⟩) n n vs:=k3.same fun ad e=>by
   injection e with e;subst e
   rw[hW,mK hgN]
  have:=yR (P:=Tryz.prog) (w:=W) (E:=308) (k:=2) (g:=w.heap.size) (o:=(i+1)*2) (cs:=vs.drop (i*2)) (cur:=X) 309 309 I (n-i) (G-(i+1)) ⟨g,i*2,none⟩ (n-i) (n-i) r R (by rw[hW];exact k4) (by rw[K,Aa om]) (fun j v L=>by
   rw[lD]at L;obtain⟨g2,z,m⟩:=k5.cell L;injection z with z;injection z with z;subst z
   rw[eu];exact m) (by rw[K,M];omega) (fun v hv=>h1 v (jo hv))
  rw[Aa (az (n-i))]at this;rw[hY];exact this
 have Ad:=ae hYs;have Dz:=ae Iq;clear hY hYs Iq hkk U O y hG hX M Ip K V Io s1 J D F r R N Z hz0 S T hc ht h1 h;have mixed:Tryz.prog.follows .mixedOrders=true:=aj;have hz2:((i:Int)==(n:Int))=false:=by simp;omega
 have hz3:decide ((n:Int)<(n:Int)+1)=true:=by simp;omega
 have hw1:IntKind.i64.wrap ((i:Int)+1)=(i:Int)+1:=by rw[bF];omega
 go_enter Tryz.func248,Tryz.ntmps248
 go_wp2_with (first
  |(at_builtin;refine Lib.wpList_append_run _ rfl _ _ 309 3 rfl _ _ rfl rfl _ _ (hrz _) ?_)
  |(at_builtin;refine Mr _ rfl _ _ 309 309 rfl _ _ rfl rfl (Q _ rfl _) ?_))
 go_region_law_o (refine Dx rfl _ _ 309 309 rfl _ _ (by simp[Act.eval,Act.put]) (by simp[Act.eval,Act.put]) (hcpB (W1.setRow w.heap.size X).drew rfl _) ?_)
 go_wp2_with fail
 go_ret;have p2:ak (W1.setRow w.heap.size X) w:=⟨⟨p1.st.os,p1.st.tape,p1.st.output,by rw[size_setRow];exact p1.st.size,fun b hb=>by rw[mK om];exact p1.st.block b hb⟩⟩;have hh:(W1.setRow w.heap.size X).drew.heap[w.heap.size]?=some (.cells X 308 (0,0)):=k4;refine⟨some ⟨w.heap.size,0,none⟩,G,rfl,?_,bS.fresh ⟨p2.st.os,p2.st.tape,p2.st.output,by rw[size_setRow];exact p2.st.size,fun b hb=>by rw[mK om];exact p2.st.block b hb⟩ (az _)⟩;exact .mk' hB (nX hh Y) hGn hG63 Ad.out Dz.out
theorem agi(h:aP w B 308 2 A c n vs)(r:∀v∈vs,v.oneCell'=true){vb:Nat}(hb:aD w vb 308 us.toArray)(j:us.length=2)(b:∀u∈us,u.oneCell'=true)(hv:∀ad,A=some ad->ad.block≠vb){y:Int}(C:y=(i:Int))(hi:i<=n)(l:n<=16777216)(z:B<=w.heap.size):
  Calls Tryz.prog 248 #[.slice A n c,y,.slice vb 1 1] w (BS w B 308 2 A (n+1) (vs.take (i*2)++us++vs.drop (i*2))):=by
 subst C;have m:vs.length=n*2:=h.1;have D:=h.le;by_cases E:i=n
 ·subst E;have:=agd h hb j b l z;rwa[show vs.take (i*2)++us++vs.drop (i*2)=vs++us from by rw[<-m,jq,Ff,oV]]
 ·rcases h.form with⟨_,rfl,_⟩|⟨g,cur,rfl,_⟩
  ·omega
  ·by_cases F:n+1<=c
   ·exact age h r hb j b (fun e=>hv _ rfl e.symm) om F l
   ·obtain rfl:c=n:=om;exact agf h r hb j b om l z
theorem agj(h:aP w B 311 3 A c n vs){vb:Nat}(hb:aD w vb 311 us.toArray)(r:us.length=3)(l:∀u∈us,u.oneCell'=true)(G:n<=16777216)(y:B<=w.heap.size):
  Calls Tryz.prog 247 #[.slice A n c,n,.slice vb 1 1] w (BS w B 311 3 A (n+1) (vs++us)):=by
 obtain⟨A',c',I,hr,C,D⟩:=QD (P:=Tryz.prog) h 194 194 aj 24 (z:=.agg #[(0:Int),(0:Int),(0:Int)]) aj (by rfl) ah ah hb r l om y;have b:Tryz.prog.underlying 194=some (.slice (Tryz.prog.elem 194)):=aj;have e:∀W,(sizeOf (Tryz.prog.elem 194)).run Tryz.prog W=.ok 3 W:=fun W=>by
  obtain⟨J,E,F⟩:=bN.1 (show(Tryz.prog.info? (Tryz.prog.elem 194)).map (·.size)=some 3 from by kernel_rfl);simp[sizeOf,typeInfo,E,F]
 have j:∃m,∀W,(Instr.slice 194 (.slice A n c) (some (.int .i64 (n:Int))) none none).run Tryz.prog W=.ok (.slice m 0 (c-n)) W:=⟨if c=n then A else A.map (·.add (n*3)),fun W=>by
  rw[j4 W 194 A n c b .i64 n om om,e];cases A<;>simp[Result.andThen,sliced]⟩
 obtain⟨m,j⟩:=j;clear b e;go_enter Tryz.func247,Tryz.ntmps247
 go_wp2_with (at_builtin;refine Lib.wpList_append_run _ rfl _ _ 194 194 rfl _ _ rfl rfl _ _ hr ?_)
 go_ret;exact⟨A',c',rfl,C,D⟩
theorem agk(h:aP w B 311 3 (some ⟨g,0,none⟩) c n vs)(h1:∀v∈vs,v.oneCell'=true){vb:Nat}(hb:aD w vb 311 us.toArray)(M:us.length=3)(Dy:∀u∈us,u.oneCell'=true)(hv:vb≠g)(hi:i<n)(hr:n+1<=c)(hn:n<=16777216):
  Calls Tryz.prog 247 #[.slice g n c,i,.slice vb 1 1] w (BS w B 311 3 (some ⟨g,0,none⟩) (n+1) (vs.take (i*3)++us++vs.drop (i*3))):=by
 obtain⟨cur,hg,hB,hle,hm,U,ht,N⟩:=h.whole;have hvl:vs.length=n*3:=h.1;have r:Tryz.prog.underlying 194=some (.slice (Tryz.prog.elem 194)):=aj;have b:Tryz.prog.underlying 194=some (.slice 311):=aj;have C:(Tryz.prog.info? 311).map (·.size)=some 3:=aj;have F:∀W,(sizeOf 311).run Tryz.prog W=.ok 3 W:=fun W=>by
  obtain⟨ii,I,y⟩:=bN.1 C;simp[sizeOf,typeInfo,I,y]
 have z:∀W,(sizeOf (Tryz.prog.elem 194)).run Tryz.prog W=.ok 3 W:=fun W=>by
  obtain⟨ii,I,y⟩:=bN.1 (show(Tryz.prog.info? (Tryz.prog.elem 194)).map (·.size)=some 3 from by kernel_rfl);simp[sizeOf,typeInfo,I,y]
 have QF:c<=9223372036854775807:=by unfold maxLen at hm;omega
 have hs0:∀W,(Instr.slice 194 (.slice g n c) (some (.int .i64 (i:Int))) none none).run Tryz.prog W=.ok (.slice (some ⟨g,i*3,none⟩) (n-i) (c-i)) W:=fun W=>by
  rw[j4 W 194 (some ⟨g,0,none⟩) n c r .i64 i om om,z];have O:¬c=i:=om;simp[Result.andThen,sliced,O,eu]
 have hs1:∀W,(Instr.slice 194 (.slice g n c) none (some (.int .i64 ((n:Int)+1))) none).run Tryz.prog W=.ok (.slice g (n+1) c) W:=fun W=>by
  rw[zU W 194 (some ⟨g,0,none⟩) n c r .i64 ((n:Int)+1) om om,z];have e:((n:Int)+1).toNat=n+1:=by omega
  simp[Result.andThen,sliced,Addr.add,e]
 have hs2:∀W,(Instr.slice 194 (.slice g (n+1) c) (some (.int .i64 ((i:Int)+1))) none none).run Tryz.prog W=.ok (.slice (some ⟨g,(i+1)*3,none⟩) (n-i) (c-(i+1))) W:=fun W=>by
  rw[j4 W 194 (some ⟨g,0,none⟩) (n+1) c r .i64 ((i:Int)+1) om om,z];have e:((i:Int)+1).toNat=i+1:=by omega
  have O:¬c=i+1:=om;have h2:n+1-(i+1)=n-i:=om;simp[Result.andThen,sliced,O,e,h2,eu]
 have hs3:∀W,(Instr.slice 194 (.slice g (n+1) c) (some (.int .i64 (i:Int))) none none).run Tryz.prog W=.ok (.slice (some ⟨g,i*3,none⟩) (n+1-i) (c-i)) W:=fun W=>by
  rw[j4 W 194 (some ⟨g,0,none⟩) (n+1) c r .i64 i om om,z];have O:¬c=i:=om;simp[Result.andThen,sliced,O,eu]
 have hov:∀lb cb,(callFunc 275 #[.slice vb 1 1,.slice (some ⟨g,(i+1)*3,none⟩) lb cb]).run Tryz.prog w=.ok (.value (.bool false)) w:=fun lb cb=>by
  rw[run_callFunc_extern Tryz.func275 aj aj aj (e:=Extern.SlicesOverlaps.overlaps #[194,194] #[4]) aj,
   Lib.run_overlaps_apart w 194 4 311 b 3 F ⟨vb,0,none⟩ ⟨g,(i+1)*3,none⟩ 1 1 lb cb hv 311 311 3 (c*3) (by have:=hb;unfold aD at this;simp[World.shape?,this,M]) (by simp[World.shape?,hg,U]) om (hb.frozen _) (hb.frozen _)]
  rfl
 have l:(vs.drop (i*3)).length=(n-i)*3:=by rw[jY,hvl];omega
 have G:∀J,(Builtin.copy_ #[194,194] J #[.slice (some ⟨g,(i+1)*3,none⟩) (n-i) (c-(i+1)),.slice (some ⟨g,i*3,none⟩) (n+1-i) (c-i)]).run Tryz.prog w.drew=.ok (goInt ((n-i:Nat):Int)) (w.drew.setRow g (cur.toList.take ((i+1)*3)++vs.drop (i*3)++cur.toList.drop ((i+1)*3+(vs.drop (i*3)).length)).toArray):=fun J=>by
  have:=yR (P:=Tryz.prog) (w:=w.drew) (E:=311) (k:=3) (g:=g) (o:=(i+1)*3) (cs:=vs.drop (i*3)) (cur:=cur) 194 194 J (n-i) (c-(i+1)) ⟨g,i*3,none⟩ (n+1-i) (c-i) b C hg (by rw[l,Aa om]) (fun j v V=>by
   rw[lD]at V;obtain⟨g2,y,K⟩:=h.cell V;injection y with y;injection y with y;subst y
   rw[eu];exact K) (by rw[l,U];omega) (fun v hv=>h1 v (jo hv))
  rw[Aa (show n-i<=n+1-i by omega)]at this;exact this
 obtain⟨X,Z⟩:=lg ((cur.toList.take ((i+1)*3)++vs.drop (i*3)++cur.toList.drop ((i+1)*3+(vs.drop (i*3)).length)).toArray);rw[<-Z]at G;have m:cur.toList.length=c*3:=by rw[qx];exact U
 have D:X.size=c*3:=by rw[Z,zP,cu,cu,dO,l,jY,m];omega
 have L:X.toList.take ((n+1)*3)=cur.toList.take ((i+1)*3)++vs.drop (i*3):=by
  rw[Z,lu (by rw[cu,dO,l,m];omega),dB (by rw[cu,dO,l,m];omega)]
 have Q:=nX (w:=w.drew) hg X;obtain⟨Y,hY⟩:=lg ((X.toList.take (i*3)++us++X.toList.drop (i*3+us.length)).toArray);have R:Y.size=c*3:=by rw[hY,zP,cu,cu,dO,jY,qx,D,M];omega
 have S:Y.toList.take ((n+1)*3)=vs.take (i*3)++us++vs.drop (i*3):=by
  have I:X.toList.take (i*3)=vs.take (i*3):=by
   have:=eD (List.take (i*3)) L;rw[kM,iY om,lu (by rw[dO,m];omega),kM,iY om]at this;rw[this,<-ht,kM,iY om]
  have y:(X.toList.take ((n+1)*3)).drop (i*3+us.length)=vs.drop (i*3):=by
   rw[L,M,Db (by rw[dO,m];omega)]
  have e3:(X.toList.take (i*3)++us).length=i*3+us.length:=by rw[cu,dO,qx,D];omega
  rw[hY]
  show List.take ((n+1)*3) (X.toList.take (i*3)++us++X.toList.drop (i*3+us.length))=_
  rw[Hz,e3,dB (by rw[e3,M];omega),<-y,I,Hw]
 have T:∀(W:World),W.heap=(w.drew.setRow g X).heap->∀J,(Builtin.copy_ #[194,194] J #[.slice (some ⟨g,i*3,none⟩) (n+1-i) (c-i),.slice vb 1 1]).run Tryz.prog W=.ok (goInt 1) (W.setRow g Y):=fun W hW J=>by
  have:=yR (P:=Tryz.prog) (w:=W) (E:=311) (k:=3) (g:=g) (o:=i*3) (cs:=us) (cur:=X) 194 194 J (n+1-i) (c-i) ⟨vb,0,none⟩ 1 1 b C (by rw[hW];exact Q) (by simp only[M,yQ (show 1<=n+1-i by omega),De]) (fun j v V=>by
   rw[eu,fo];have I:W.heap[vb]?=some (.cells us.toArray 311 (0,0)):=by rw[hW,mK hv];exact hb
   simp[World.cell?,I];simpa using V) (by rw[M,D];omega) Dy
  rw[yQ (show 1<=n+1-i by omega)]at this;rw[hY];exact this
 have Ad:=ae R;have Dz:=ae S;have mixed:Tryz.prog.follows .mixedOrders=true:=aj;clear hY R S Z D L m l r z b F C U ht h1 h;have hz2:((i:Int)==(n:Int))=false:=by simp;omega
 have hz3:decide ((c:Int)<(n:Int)+1)=false:=by simp;omega
 have hw1:IntKind.i64.wrap ((i:Int)+1)=(i:Int)+1:=by rw[bF];omega
 go_enter Tryz.func247,Tryz.ntmps247
 go_wp2_with (simp only[hov])
 go_region_law_o (refine Dx rfl _ _ 194 194 rfl _ _ (by simp[Act.eval,Act.put]) (by simp[Act.eval,Act.put]) (G _) ?_)
 go_wp2_with (at_builtin;refine Mr _ rfl _ _ 194 194 rfl _ _ rfl rfl (T _ rfl _) ?_)
 go_ret;refine⟨some ⟨g,0,none⟩,c,rfl,?_,((bS.refl _ w).drew.trans (xw (w:=w.drew) N X)).trans (xw (by rw[size_setRow];exact N) _)⟩;exact .mk' hB (nX Q Y) hr hm Ad.out Dz.out
theorem agl(h:aP w B 311 3 (some ⟨g,0,none⟩) n n vs)(h1:∀v∈vs,v.oneCell'=true){vb:Nat}(hb:aD w vb 311 us.toArray)(hl:us.length=3)(Dy:∀u∈us,u.oneCell'=true)(hi:i<n)(hn:n<=16777216)(hB:B<=w.heap.size):
  Calls Tryz.prog 247 #[.slice g n n,.int .i64 (i:Int),.slice vb 1 1] w (BS w B 311 3 (some ⟨g,0,none⟩) (n+1) (vs.take (i*3)++us++vs.drop (i*3))):=by
 obtain⟨cur,hg,-,-,hm,hc,ht,hgl⟩:=h.whole;have C:vs.length=n*3:=h.1;have D:Tryz.prog.underlying 194=some (.slice (Tryz.prog.elem 194)):=aj;have r:Tryz.prog.underlying 194=some (.slice 311):=aj;have N:(Tryz.prog.info? 311).map (fun i=>(i.zero,i.size,i.bytes))=some (some (.agg #[(0:Int),(0:Int),(0:Int)]),3,24):=by kernel_rfl
 have R:(Tryz.prog.info? 311).map (·.size)=some 3:=aj;obtain⟨ii,Z,hzz⟩:=bN.1 N;simp only[jZ]at hzz;obtain⟨hz0,S,T⟩:=hzz;have F:∀W,(sizeOf (Tryz.prog.elem 194)).run Tryz.prog W=.ok 3 W:=fun W=>by
  obtain⟨ii,e1,z⟩:=bN.1 (show(Tryz.prog.info? (Tryz.prog.elem 194)).map (·.size)=some 3 from by kernel_rfl);simp[sizeOf,typeInfo,e1,z]
 have hs0:∀W,(Instr.slice 194 (.slice g n n) (some (.int .i64 (i:Int))) none none).run Tryz.prog W=.ok (.slice (some ⟨g,i*3,none⟩) (n-i) (n-i)) W:=fun W=>by
  rw[j4 W 194 (some ⟨g,0,none⟩) n n D .i64 i om om,F];have h0:¬n=i:=om;simp[Result.andThen,sliced,h0,eu]
 have hs1:∀W,(Instr.slice 194 (.slice g n n) none (some (.int .i64 (i:Int))) none).run Tryz.prog W=.ok (.slice g i n) W:=fun W=>by
  rw[zU W 194 (some ⟨g,0,none⟩) n n D .i64 i om om,F];simp[Result.andThen,sliced,Addr.add]
 have hkk:(n:Int)+1-(i:Int)=((n+1-i:Nat):Int):=by omega
 have U:i+(n+1-i)=n+1:=om;have O:(Builtin.firstCells ii.size i (.slice g i n)).run Tryz.prog w.drew=.ok (vs.take (i*3)).toArray w.drew:=by
  rw[S];exact PK w.drew 3 i ⟨g,0,none⟩ i n (vs.take (i*3)) (by rw[dO,C];omega) (fun j v L=>by
   rw[eu,fo];rw[l7]at L
   split at L
   ·obtain⟨g2,z,m⟩:=h.cell L;injection z with z;injection z with z;subst z
    exact m
   ·cases L)
 obtain⟨G,hG⟩:=lg (grownCap w (n+1) n 311);obtain⟨l,y⟩:∃l:Array Value,l=(vs.take (i*3)).toArray++Builtin.zeroCells (Value.cells (.agg #[(0:Int),(0:Int),(0:Int)])) (n+1-i)++Builtin.zeroCells (Value.cells (.agg #[(0:Int),(0:Int),(0:Int)])) (G-(n+1)):=⟨_,rfl⟩;have hrz:∀I,(Builtin.append_ #[194,3] I #[.slice g i n,.int .i64 ((n:Int)+1-(i:Int))]).run Tryz.prog w=
   .ok (.slice w.heap.size (n+1) G) (w.drew.alloc (.cells l 311)):=fun I=>by
  have h:=Lib.run_append_grow_zeros (P:=Tryz.prog) w 194 3 I 311 ii _ .i64 .i64 r aj Z hz0 (some ⟨g,0,none⟩) i n (vs.take (i*3)) O (n+1-i) om (by rw[S];decide) om om (by rw[T];omega) (by rw[T,U];exact PZ om om);rw[U]at h;rw[hkk,hG,y,hG];exact h
 have hGn:n+1<=G:=by rw[hG];exact Dj w _ _ _
 have hG63:G<=maxLen:=by rw[hG];exact Fa w (n+1) n 311 (by unfold maxLen;omega)
 have V:l.size=G*3:=by
  rw[y];simp[Builtin.zeroCells,Value.cells,C];omega
 have Io:l.toList.take (i*3)=vs.take (i*3):=by
  rw[y];simp only[PI];rw[jX,qz (by simp[C];omega)]
 have hn2:∀W,(Instr.slice 194 (.slice w.heap.size (n+1) G) (some (.int .i64 (i:Int))) none none).run Tryz.prog W=.ok (.slice (some ⟨w.heap.size,i*3,none⟩) (n+1-i) (G-i)) W:=fun W=>by
  rw[j4 W 194 (some ⟨w.heap.size,0,none⟩) (n+1) G D .i64 i om om,F];have h0:¬G=i:=om;simp[Result.andThen,sliced,h0,eu]
 have hn3:∀W,(Instr.slice 194 (.slice w.heap.size (n+1) G) (some (.int .i64 ((i:Int)+1))) none none).run Tryz.prog W=.ok (.slice (some ⟨w.heap.size,(i+1)*3,none⟩) (n-i) (G-(i+1))) W:=fun W=>by
  rw[j4 W 194 (some ⟨w.heap.size,0,none⟩) (n+1) G D .i64 ((i:Int)+1) om om,F];have e:((i:Int)+1).toNat=i+1:=by omega
  have h0:¬G=i+1:=om;have h2:n+1-(i+1)=n-i:=om;simp[Result.andThen,sliced,h0,e,h2,eu]
 obtain⟨W1,J⟩:=lg (w.drew.alloc (.cells l 311));rw[<-J]at hrz;have p1:ak W1 w:=J▸⟨((bq _ w).drew).alloc (az _) _⟩;have k1:W1.heap[w.heap.size]?=some (.cells l 311 (0,0)):=by rw[J];exact xe w.drew _
 have k2:aD W1 vb 311 us.toArray:=hb.keep p1.st;have k3:aP W1 B 311 3 (some ⟨g,0,none⟩) n n vs:=h.keep p1.st;have s1:W1.heap.size=w.heap.size+1:=by rw[J];simp
 have Q:∀(W:World),W.heap=W1.heap->∀I,(Builtin.copy_ #[194,194] I #[.slice (some ⟨w.heap.size,i*3,none⟩) (n+1-i) (G-i),.slice vb 1 1]).run Tryz.prog W=.ok (goInt 1) (W.setRow w.heap.size (l.toList.take (i*3)++us++l.toList.drop (i*3+us.length)).toArray):=fun W hW I=>by
  have:=yR (P:=Tryz.prog) (w:=W) (E:=311) (k:=3) (g:=w.heap.size) (o:=i*3) (cs:=us) (cur:=l) 194 194 I (n+1-i) (G-i) ⟨vb,0,none⟩ 1 1 r R (by rw[hW];exact k1) (by simp only[hl,yQ (show 1<=n+1-i by omega),De]) (fun j v L=>by
   rw[eu,fo];have e1:W.heap[vb]?=some (.cells us.toArray 311 (0,0)):=by rw[hW];exact k2
   simp[World.cell?,e1];simpa using L) (by rw[hl,V];omega) Dy
  rw[yQ (show 1<=n+1-i by omega)]at this;exact this
 obtain⟨X,hX⟩:=lg ((l.toList.take (i*3)++us++l.toList.drop (i*3+us.length)).toArray);rw[<-hX]at Q;have M:X.size=G*3:=by rw[hX,zP,cu,cu,dO,jY,qx,hl,V];omega
 have Ip:X.toList.take ((i+1)*3)=vs.take (i*3)++us:=by
  rw[hX]
  show List.take ((i+1)*3) (l.toList.take (i*3)++us++l.toList.drop (i*3+us.length))=_
  rw[Io,qz (by rw[cu,dO,C,hl];omega)]
 have K:(vs.drop (i*3)).length=(n-i)*3:=by rw[jY,C];omega
 have k4:(W1.setRow w.heap.size X).heap[w.heap.size]?=some (.cells X 311 (0,0)):=nX k1 X;have hgN:g≠w.heap.size:=om;obtain⟨Y,hY⟩:=lg ((X.toList.take ((i+1)*3)++vs.drop (i*3)++X.toList.drop ((i+1)*3+(vs.drop (i*3)).length)).toArray);have hYs:Y.size=G*3:=by rw[hY,zP,cu,cu,dO,K,jY,qx,M];omega
 have Iq:Y.toList.take ((n+1)*3)=vs.take (i*3)++us++vs.drop (i*3):=by
  rw[hY]
  show List.take ((n+1)*3) (X.toList.take ((i+1)*3)++vs.drop (i*3)++X.toList.drop ((i+1)*3+(vs.drop (i*3)).length))=_
  rw[qz (by rw[cu,dO,qx,M,K];omega),Ip]
 have hcpB:∀(W:World),W.heap=(W1.setRow w.heap.size X).heap->∀I,(Builtin.copy_ #[194,194] I #[.slice (some ⟨w.heap.size,(i+1)*3,none⟩) (n-i) (G-(i+1)),.slice (some ⟨g,i*3,none⟩) (n-i) (n-i)]).run Tryz.prog W=.ok (goInt ((n-i:Nat):Int)) (W.setRow w.heap.size Y):=fun W hW I=>by
  have k5:aP W B 311 3 (some ⟨g,0,none⟩) n n vs:=k3.same fun ad e=>by
   injection e with e;subst e
   rw[hW,mK hgN]
  have:=yR (P:=Tryz.prog) (w:=W) (E:=311) (k:=3) (g:=w.heap.size) (o:=(i+1)*3) (cs:=vs.drop (i*3)) (cur:=X) 194 194 I (n-i) (G-(i+1)) ⟨g,i*3,none⟩ (n-i) (n-i) r R (by rw[hW];exact k4) (by rw[K,Aa om]) (fun j v L=>by
   rw[lD]at L;obtain⟨g2,z,m⟩:=k5.cell L;injection z with z;injection z with z;subst z
   rw[eu];exact m) (by rw[K,M];omega) (fun v hv=>h1 v (jo hv))
  rw[Aa (az (n-i))]at this;rw[hY];exact this
 have Ad:=ae hYs;have Dz:=ae Iq;clear hY hYs Iq hkk U O y hG hX M Ip K V Io s1 J D F r R N Z hz0 S T hc ht h1 h;have mixed:Tryz.prog.follows .mixedOrders=true:=aj;have hz2:((i:Int)==(n:Int))=false:=by simp;omega
 have hz3:decide ((n:Int)<(n:Int)+1)=true:=by simp;omega
 have hw1:IntKind.i64.wrap ((i:Int)+1)=(i:Int)+1:=by rw[bF];omega
 go_enter Tryz.func247,Tryz.ntmps247
 go_wp2_with (first
  |(at_builtin;refine Lib.wpList_append_run _ rfl _ _ 194 3 rfl _ _ rfl rfl _ _ (hrz _) ?_)
  |(at_builtin;refine Mr _ rfl _ _ 194 194 rfl _ _ rfl rfl (Q _ rfl _) ?_))
 go_region_law_o (refine Dx rfl _ _ 194 194 rfl _ _ (by simp[Act.eval,Act.put]) (by simp[Act.eval,Act.put]) (hcpB (W1.setRow w.heap.size X).drew rfl _) ?_)
 go_wp2_with fail
 go_ret;have p2:ak (W1.setRow w.heap.size X) w:=⟨⟨p1.st.os,p1.st.tape,p1.st.output,by rw[size_setRow];exact p1.st.size,fun b hb=>by rw[mK om];exact p1.st.block b hb⟩⟩;have hh:(W1.setRow w.heap.size X).drew.heap[w.heap.size]?=some (.cells X 311 (0,0)):=k4;refine⟨some ⟨w.heap.size,0,none⟩,G,rfl,?_,bS.fresh ⟨p2.st.os,p2.st.tape,p2.st.output,by rw[size_setRow];exact p2.st.size,fun b hb=>by rw[mK om];exact p2.st.block b hb⟩ (az _)⟩;exact .mk' hB (nX hh Y) hGn hG63 Ad.out Dz.out
theorem agm(h:aP w B 311 3 A c n vs)(r:∀v∈vs,v.oneCell'=true){vb:Nat}(hb:aD w vb 311 us.toArray)(j:us.length=3)(b:∀u∈us,u.oneCell'=true)(hv:∀ad,A=some ad->ad.block≠vb){y:Int}(C:y=(i:Int))(hi:i<=n)(l:n<=16777216)(z:B<=w.heap.size):
  Calls Tryz.prog 247 #[.slice A n c,y,.slice vb 1 1] w (BS w B 311 3 A (n+1) (vs.take (i*3)++us++vs.drop (i*3))):=by
 subst C;have m:vs.length=n*3:=h.1;have D:=h.le;by_cases E:i=n
 ·subst E;have:=agj h hb j b l z;rwa[show vs.take (i*3)++us++vs.drop (i*3)=vs++us from by rw[<-m,jq,Ff,oV]]
 ·rcases h.form with⟨_,rfl,_⟩|⟨g,cur,rfl,_⟩
  ·omega
  ·by_cases F:n+1<=c
   ·exact agk h r hb j b (fun e=>hv _ rfl e.symm) om F l
   ·obtain rfl:c=n:=om;exact agl h r hb j b om l z
end
def nY(w:World)(B:Nat)(A:Option Addr)(n c:Nat)(F:Nat->Prop)(t:Tb):Prop:=
 (n=0/\t=[]/\∀b,¬F b)\/(n=1/\∃q r e,A=some ⟨q,0,none⟩/\aP w B 309 1 (some ⟨q,0,none⟩) c 1 [.slice (some ⟨r,0,none⟩) t.length e]/\aP w B 308 2 (some ⟨r,0,none⟩) e t.length (ic t)/\0<t.length/\∀b,F b↔b=q\/b=r)
section
variable{w w' u:World}{A:Option Addr}{g o q r n c B k cr:Nat}{t:Tb}{F:Nat->Prop}{y z h:Int}{b:Bool}
theorem aP.is_(h:aP w B 308 2 A c k (ic t)):Is w A t.length t:=by
 refine⟨fun j x C=>?_,rfl⟩;obtain⟨a0,D⟩:=Mm C;obtain⟨g,e,E⟩:=h.cell a0;obtain⟨m,l,G⟩:=h.cell D;have I:m=g:=by rw[e]at l;injection l with l;injection l with l;exact l.symm
 subst I;exact⟨m,0,e,h.lt _ e,by rw[fo];exact E,by rw[fo];exact G⟩
theorem XY(t:Tb):∀v∈ic t,v.oneCell'=true:=fun v hv=>by
 obtain⟨x,_,e⟩:=CX.1 hv;simp at e;rcases e with rfl|rfl<;>rfl
theorem nY.keep(h:nY w B A n c F t)(D:∀b,F b->w'.heap[b]?=w.heap[b]?):nY w' B A n c F t:=by
 rcases h with⟨j,l,m⟩|⟨j,q,r,cr,l,m,E,G,C⟩
 ·exact .inl ⟨j,l,m⟩
 ·exact .inr ⟨j,q,r,cr,l,m.same fun ad e=>by injection e with e;subst e;exact D q ((C q).2 (.inl rfl)),E.same fun ad e=>by injection e with e;subst e;exact D r ((C r).2 (.inr rfl)),G,C⟩
theorem nY.at(h:nY w B A n c F t)[Later w w']:nY w' B A n c F t:=by
 rcases h with⟨e,j,l⟩|⟨e,q,r,cr,j,l,m,C,D⟩
 ·exact .inl ⟨e,j,l⟩
 ·exact .inr ⟨e,q,r,cr,j,l.at,m.at,C,D⟩
theorem XZ{Q:World->Prop}{X:World}{T T':TypeId}{cs e:Array Value}(h:∀u,ak u X->Bx u X.heap.size T cs->Bx u (X.heap.size+1) T' e->Q u):Q ((X.alloc (.cells cs T)).alloc (.cells e T')):=
 h _ (ai _ _) iin iin
theorem Ms[k0:Cl w g o (.slice A n c)](L:Hid (nY w B A n c F t))(hr:Hid (kT t))(hn:Hid (t.length<=1000)){j:Nat}(M:Hid (gX t y=j))(hb:Hid (qB t y=b)):
  Calls Tryz.prog 205 #[.pointer (some ⟨g,o,none⟩),y] w (aM w (.tuple #[(0:Int),j,.bool b])):=by
 obtain⟨CB,CP⟩:=lM;have CC:=@jK;have o1:Old g w:=⟨ku k0.eq⟩;rcases L.out with⟨N,I,-⟩|⟨N,q,r,cr,I,h3,O,P,-⟩
 ·subst N;have Q:Hid (j=0):=ae (by rw[<-M.out,I];rfl);have R:Hid (b=false):=ae (by rw[<-hb.out,I];rfl);clear L I;go_enter Tryz.func205,Tryz.ntmps205
  go_upto_region 1 with fail
  refine XZ (fun S _ kp T=>?_)
  go_wp2_with (go_at_call 252;refine af6.mono ?_;rintro e u1 ⟨rfl,_⟩)
  refine bM (v:=.tuple #[(0:Int),(0:Int),.bool false]) (by simp[results,Tryz.results205,go_sem]) rfl ⟨by rw[Q.out,R.out];rfl,ai _ _⟩
 ·subst N I;obtain⟨⟨x,hx⟩,J,ht⟩:∃e J,t=e::J:=by
   cases t with
   |nil=>simp at P
   |cons e J=>exact⟨e,J,rfl⟩
  have c1:Cl w q 0 (.slice r t.length cr):=⟨by obtain⟨g,e,U⟩:=h3.cell (j:=0) rfl;injection e with e;injection e with e;subst e;exact U⟩;have c2:Cl w r 0 (.int .i64 x):=⟨by obtain⟨g,e,U⟩:=O.cell (j:=0) (v:=.int .i64 x) (by rw[ht];rfl);injection e with e;injection e with e;subst e;exact U⟩;have i1:Is w (some ⟨r,0,none⟩) t.length t:=O.is_;have o2:Old q w:=⟨ku c1.eq⟩;obtain⟨m,hm⟩:=lh t.length;have HM:Hid (m<=100000):=ae (by rw[<-hm];have:=hn.out;omega);rw[hm]at c1 i1 P;obtain⟨p,hp⟩:=lh (decide (0<uI x y));have D:Hid (∀(u:World) (V X:Nat) (T1 T2:TypeId),Bx u V T1 #[.pointer (some ⟨g,o,none⟩)]->Bx u X T2 #[y]->Later w u->∀(v:World) (i:Nat),Hid (i=0)->ak v u->Calls Tryz.prog 253 #[.int .i64 (i:Int),.pointer (some ⟨V,0,none⟩),.pointer (some ⟨X,0,none⟩)] v (aM v (.bool p))):=ae fun u V X T1 T2 k1 k2 l v i hi pv=>by
   have Y:i=0:=hi.out;subst Y;rw[<-hp];have pw:ak v w:=⟨dS l.st pv.st⟩;exact af5 (g:=g) (o:=o) (q:=q) (r:=r) P
  have HP:=ae hp;have HT:=ae ht;clear hp ht hm h3 O L;go_enter Tryz.func205,Tryz.ntmps205
  go_upto_region 1 with fail
  refine XZ (fun S _ kp T=>?_);rcases p with _|_
  ·have Z:Hid ((1:Nat)=if false=true then 0 else 1):=ae rfl;have E:=ae (D.out S _ _ _ _ kp T iin);have w0:IntKind.i64.wrap 0=0:=ah;clear D
   go_upto_region 4 with(go_at_call 252;refine(XV Z E).mono ?_;rintro e u1 ⟨rfl,_⟩)
   refine bZ aj (fun ux _=>?_);refine ag 0 18 ?_;refine ag 1 19 ?_;refine ag 2 20 ?_;refine ag 3 21 ?_;refine ag 4 22 ?_;refine ag 5 23 ?_;refine ag 6 24 ?_;refine ag 7 25 ?_;refine ag 8 26 ?_;refine ay 9 fun K hK=>?_;go_simp
   (with_reducible refine(af8 hr HM.out M hb).mono ?_)
   rintro e ux ⟨rfl,_⟩;dsimp only;refine av hK ?_;clear hK K;refine ag 10 17 ?_;refine ag 11 28 ?_;refine ag 12 29 ?_;refine ag 13 5 ?_;refine ag 14 6 ?_;refine aO ?_
   go_wp2_with fail
   refine bM (v:=.tuple #[(0:Int),j,.bool b]) (by simp[results,Tryz.results205,go_sem]) rfl ⟨rfl,ai _ _⟩
  ·have Z:Hid ((0:Nat)=if true=true then 0 else 1):=ae rfl;have E:=ae (D.out S _ _ _ _ kp T iin);have hlt:y<x:=by
    have:=HP.out;simp at this;unfold uI at this
    split at this
    ·omega
    ·split at this
     ·assumption
     ·omega
   have C:∀e∈t,¬e.1<=y:=fun e G=>by
    rw[HT.out]at G;rcases dz.1 G with rfl|G
    ·dsimp only;omega
    ·have h9:=hr.out;rw[HT.out]at h9;have:=(qy.1 h9).1 e G;dsimp only at this;omega
   have Q:Hid (j=0):=ae (by rw[<-M.out];exact XG fun e G=>by have:=C e G;omega);have R:Hid (b=false):=ae (by rw[<-hb.out];exact Qx.2 fun z hz=>C _ hz (jg _));clear D hlt C
   go_wp2_with (go_at_call 252;refine(XV Z E).mono ?_;rintro e u1 ⟨rfl,_⟩)
   refine bM (v:=.tuple #[(0:Int),(0:Int),.bool false]) (by simp[results,Tryz.results205,go_sem]) rfl ⟨by rw[Q.out,R.out];rfl,ai _ _⟩
end
end Go.Proofs.YtmkjnlifimffkaaGreat
