/- Lemmas. No condition. -/
import Derived.Test.YtmkjnlifimffkaaGreatS05
import Derived.Shelf.RegionOpenPlain
namespace Go.Proofs.YtmkjnlifimffkaaGreat
open Go.RowKit
set_option linter.all false
set_option maxRecDepth 100000
set_option maxHeartbeats 16000000
section
variable{w:World}{B g c n i:Nat}{vs:List Value}
theorem aga(h:aP w B 308 2 (some ⟨g,0,none⟩) c n vs)(Q:∀v∈vs,v.oneCell'=true){x y:Int}(R:x=(i:Int))(Y:y=(i:Int)+1)(hi:i<n)(hn:n<=16777216):
  Calls Tryz.prog 257 #[.slice g n c,x,y] w fun e w'=>e=.returned (.slice g (n-1) c)/\aP w' B 308 2 (some ⟨g,0,none⟩) c (n-1) (vs.take (i*2)++vs.drop ((i+1)*2))/\bS (some ⟨g,0,none⟩) (some ⟨g,0,none⟩) w w':=by
 subst R Y;obtain⟨cur,hg,Z,hl,hm,hc,ht,D⟩:=h.whole;have b:(Tryz.prog.info? 308).map (fun i=>(i.zero,i.size,i.bytes))=some (some (.agg #[(0:Int),(0:Int)]),2,16):=by kernel_rfl
 have F:(Tryz.prog.info? 308).map (·.size)=some 2:=by
  obtain⟨S,G,r⟩:=bN.1 b;rw[G];simp at r;simp[r]
 have j:∀W,(sizeOf (Tryz.prog.elem 309)).run Tryz.prog W=.ok 2 W:=fun W=>by
  obtain⟨S,G,r⟩:=bN.1 (show(Tryz.prog.info? (Tryz.prog.elem 309)).map (·.size)=some 2 from by kernel_rfl);simp[sizeOf,typeInfo,G,r]
 have l:Tryz.prog.underlying 309=some (.slice (Tryz.prog.elem 309)):=aj;obtain⟨T,hsl⟩:∃T,∀W,(Instr.slice 309 (.slice g n c) (some (.int .i64 (i:Int))) (some (.int .i64 ((i:Int)+1))) (some (.int .i64 (n:Int)))).run Tryz.prog W=.ok T W:=by
  refine⟨sliced (some ⟨g,0,none⟩) ((i:Int)).toNat ((i:Int)+1).toNat ((n:Int)).toNat 2,fun W=>?_⟩;rw[LY W 309 (some ⟨g,0,none⟩) n c l .i64 .i64 .i64 i ((i:Int)+1) n om om om om,j];rfl
 obtain⟨off,u⟩:=lg (if c=i+1 then 0 else(i+1)*2:Nat);have hs1:∀W,(Instr.slice 309 (.slice g n c) none (some (.int .i64 (i:Int))) none).run Tryz.prog W=.ok (.slice g i c) W:=fun W=>by
  rw[zU W 309 (some ⟨g,0,none⟩) n c l .i64 i om om,j];simp[Result.andThen,sliced,Addr.add]
 have hs2:∀W,(Instr.slice 309 (.slice g n c) (some (.int .i64 ((i:Int)+1))) none none).run Tryz.prog W=.ok (.slice (some ⟨g,off,none⟩) (n-(i+1)) (c-(i+1))) W:=fun W=>by
  rw[j4 W 309 (some ⟨g,0,none⟩) n c l .i64 ((i:Int)+1) om om,j,u];have e:((i:Int)+1).toNat=i+1:=by omega
  by_cases M:c=i+1
  ·simp[Result.andThen,sliced,e,M]
  ·simp[Result.andThen,sliced,e,M,eu]
 have hs3:∀W,(Instr.slice 309 (.slice g (n-1) c) (some (.int .i64 ((n-1:Nat):Int))) (some (.int .i64 (n:Int))) none).run Tryz.prog W=.ok (.slice (some ⟨g,(n-1)*2,none⟩) 1 (c-(n-1))) W:=fun W=>by
  rw[BD W 309 (some ⟨g,0,none⟩) (n-1) c l .i64 .i64 ((n-1:Nat):Int) n om om om,j];have M:¬c=n-1:=om;have h2:n-(n-1)=1:=om;simp[Result.andThen,sliced,M,h2,eu]
 have m:i+1<n->off=(i+1)*2:=fun R=>by rw[u,if_neg om]
 have U:∀(W:World),W.heap=w.heap->∀I,∃X,(Builtin.append_ #[309,309] I #[.slice g i c,.slice (some ⟨g,off,none⟩) (n-(i+1)) (c-(i+1))]).run Tryz.prog W=.ok (.slice g (n-1) c) (W.setRow g X)/\X.size=c*2/\X.toList.take ((n-1)*2)=vs.take (i*2)++vs.drop ((i+1)*2):=fun W hW I=>
  QC (B:=B) (k:=2) (h.same fun ad _=>by rw[hW]) hi 309 I aj F Q m
 have hne:((i:Int)==(i:Int)+1)=false:=by simp;omega
 have HR:=ae U;have HI:=ae b;have mixed:Tryz.prog.follows .mixedOrders=true:=aj;clear u m U b F hc ht Q h l j;go_enter Tryz.func257,Tryz.ntmps257
 go_upto_region 5 with fail
 obtain⟨X,hX,J,K⟩:=HR.out w.drew rfl 309;have V:=nX (w:=w.drew) hg X;have N:=ae K;have C:=ae J;clear K J
 go_region_law_o (refine QE rfl _ _ 309 309 rfl _ _ (by simp[Act.eval,Act.put]) (by simp[Act.eval,Act.put]) hX ?_)
 have h4:(n-1)*2+2=n*2:=om;have O:=fun I=>Mq (P:=Tryz.prog) (w:=w.drew.setRow g X) (E:=308) (z:=.agg #[(0:Int),(0:Int)]) (n:=1) (us:=[.int .i64 0,.int .i64 0]) (o:=(n-1)*2) 309 I aj (fun W=>by obtain⟨S,G,r⟩:=bN.1 HI.out;simp at r;simp[zeroValue,typeInfo,G,r]) (by first|rfl|(simp[Builtin.zeroCells,Value.cells];try rfl)) (by simp[Value.oneCell']) ah (cap:=c-(n-1)) V (by rw[C.out];simp;omega)
 try simp only[nR]at O
 go_wp2_with fail
 go_ret;refine⟨rfl,?_,?_⟩
 ·refine .mk' Z (nX V _) om hm (by simp[C.out];omega) ?_
  first|(rw[lu (by simp[C.out];omega),lu (by simp[C.out];omega),kM,zS,N.out];done)|(rw[lu (by simp[C.out];omega),kM,zS,N.out];done)|(have L:=N.out;simp only[nR]at L⊢;rw[lu (by simp[C.out];omega),kM,zS,L])
 ·exact((bS.refl _ w).drew.trans (xw (w:=w.drew) D X)).trans (xw (by rw[size_setRow];exact D) _)
theorem agb(h:aP w B 311 3 (some ⟨g,0,none⟩) c n vs)(Q:∀v∈vs,v.oneCell'=true){x y:Int}(R:x=(i:Int))(Y:y=(i:Int)+1)(hi:i<n)(hn:n<=16777216):
  Calls Tryz.prog 208 #[.slice g n c,x,y] w fun e w'=>e=.returned (.slice g (n-1) c)/\aP w' B 311 3 (some ⟨g,0,none⟩) c (n-1) (vs.take (i*3)++vs.drop ((i+1)*3))/\bS (some ⟨g,0,none⟩) (some ⟨g,0,none⟩) w w':=by
 subst R Y;obtain⟨cur,hg,Z,hl,hm,hc,ht,D⟩:=h.whole;have b:(Tryz.prog.info? 311).map (fun i=>(i.zero,i.size,i.bytes))=some (some (.agg #[(0:Int),(0:Int),(0:Int)]),3,24):=by kernel_rfl
 have F:(Tryz.prog.info? 311).map (·.size)=some 3:=by
  obtain⟨S,G,r⟩:=bN.1 b;rw[G];simp at r;simp[r]
 have j:∀W,(sizeOf (Tryz.prog.elem 194)).run Tryz.prog W=.ok 3 W:=fun W=>by
  obtain⟨S,G,r⟩:=bN.1 (show(Tryz.prog.info? (Tryz.prog.elem 194)).map (·.size)=some 3 from by kernel_rfl);simp[sizeOf,typeInfo,G,r]
 have l:Tryz.prog.underlying 194=some (.slice (Tryz.prog.elem 194)):=aj;obtain⟨T,hsl⟩:∃T,∀W,(Instr.slice 194 (.slice g n c) (some (.int .i64 (i:Int))) (some (.int .i64 ((i:Int)+1))) (some (.int .i64 (n:Int)))).run Tryz.prog W=.ok T W:=by
  refine⟨sliced (some ⟨g,0,none⟩) ((i:Int)).toNat ((i:Int)+1).toNat ((n:Int)).toNat 3,fun W=>?_⟩;rw[LY W 194 (some ⟨g,0,none⟩) n c l .i64 .i64 .i64 i ((i:Int)+1) n om om om om,j];rfl
 obtain⟨off,u⟩:=lg (if c=i+1 then 0 else(i+1)*3:Nat);have hs1:∀W,(Instr.slice 194 (.slice g n c) none (some (.int .i64 (i:Int))) none).run Tryz.prog W=.ok (.slice g i c) W:=fun W=>by
  rw[zU W 194 (some ⟨g,0,none⟩) n c l .i64 i om om,j];simp[Result.andThen,sliced,Addr.add]
 have hs2:∀W,(Instr.slice 194 (.slice g n c) (some (.int .i64 ((i:Int)+1))) none none).run Tryz.prog W=.ok (.slice (some ⟨g,off,none⟩) (n-(i+1)) (c-(i+1))) W:=fun W=>by
  rw[j4 W 194 (some ⟨g,0,none⟩) n c l .i64 ((i:Int)+1) om om,j,u];have e:((i:Int)+1).toNat=i+1:=by omega
  by_cases M:c=i+1
  ·simp[Result.andThen,sliced,e,M]
  ·simp[Result.andThen,sliced,e,M,eu]
 have hs3:∀W,(Instr.slice 194 (.slice g (n-1) c) (some (.int .i64 ((n-1:Nat):Int))) (some (.int .i64 (n:Int))) none).run Tryz.prog W=.ok (.slice (some ⟨g,(n-1)*3,none⟩) 1 (c-(n-1))) W:=fun W=>by
  rw[BD W 194 (some ⟨g,0,none⟩) (n-1) c l .i64 .i64 ((n-1:Nat):Int) n om om om,j];have M:¬c=n-1:=om;have h2:n-(n-1)=1:=om;simp[Result.andThen,sliced,M,h2,eu]
 have m:i+1<n->off=(i+1)*3:=fun R=>by rw[u,if_neg om]
 have U:∀(W:World),W.heap=w.heap->∀I,∃X,(Builtin.append_ #[194,194] I #[.slice g i c,.slice (some ⟨g,off,none⟩) (n-(i+1)) (c-(i+1))]).run Tryz.prog W=.ok (.slice g (n-1) c) (W.setRow g X)/\X.size=c*3/\X.toList.take ((n-1)*3)=vs.take (i*3)++vs.drop ((i+1)*3):=fun W hW I=>
  QC (B:=B) (k:=3) (h.same fun ad _=>by rw[hW]) hi 194 I aj F Q m
 have hne:((i:Int)==(i:Int)+1)=false:=by simp;omega
 have HR:=ae U;have HI:=ae b;have mixed:Tryz.prog.follows .mixedOrders=true:=aj;clear u m U b F hc ht Q h l j;go_enter Tryz.func208,Tryz.ntmps208
 go_upto_region 5 with fail
 obtain⟨X,hX,J,K⟩:=HR.out w.drew rfl 194;have V:=nX (w:=w.drew) hg X;have N:=ae K;have C:=ae J;clear K J
 go_region_law_o (refine QE rfl _ _ 194 194 rfl _ _ (by simp[Act.eval,Act.put]) (by simp[Act.eval,Act.put]) hX ?_)
 have h4:(n-1)*3+3=n*3:=om;have O:=fun I=>Mq (P:=Tryz.prog) (w:=w.drew.setRow g X) (E:=311) (z:=.agg #[(0:Int),(0:Int),(0:Int)]) (n:=1) (us:=[.int .i64 0,.int .i64 0,.int .i64 0]) (o:=(n-1)*3) 194 I aj (fun W=>by obtain⟨S,G,r⟩:=bN.1 HI.out;simp at r;simp[zeroValue,typeInfo,G,r]) (by first|rfl|(simp[Builtin.zeroCells,Value.cells];try rfl)) (by simp[Value.oneCell']) ah (cap:=c-(n-1)) V (by rw[C.out];simp;omega)
 try simp only[nR]at O
 go_wp2_with fail
 go_ret;refine⟨rfl,?_,?_⟩
 ·refine .mk' Z (nX V _) om hm (by simp[C.out];omega) ?_
  first|(rw[lu (by simp[C.out];omega),lu (by simp[C.out];omega),kM,zS,N.out];done)|(rw[lu (by simp[C.out];omega),kM,zS,N.out];done)|(have L:=N.out;simp only[nR]at L⊢;rw[lu (by simp[C.out];omega),kM,zS,L])
 ·exact((bS.refl _ w).drew.trans (xw (w:=w.drew) D X)).trans (xw (by rw[size_setRow];exact D) _)
theorem agc(h:aP w B 309 1 (some ⟨g,0,none⟩) c n vs)(Q:∀v∈vs,v.oneCell'=true){x y:Int}(R:x=(i:Int))(Y:y=(i:Int)+1)(hi:i<n)(hn:n<=16777216):
  Calls Tryz.prog 258 #[.slice g n c,x,y] w fun e w'=>e=.returned (.slice g (n-1) c)/\aP w' B 309 1 (some ⟨g,0,none⟩) c (n-1) (vs.take (i*1)++vs.drop ((i+1)*1))/\bS (some ⟨g,0,none⟩) (some ⟨g,0,none⟩) w w':=by
 subst R Y;obtain⟨cur,hg,Z,hl,hm,hc,ht,D⟩:=h.whole;have b:(Tryz.prog.info? 309).map (fun i=>(i.zero,i.size,i.bytes))=some (some (.slice none 0 0),1,24):=aj;have F:(Tryz.prog.info? 309).map (·.size)=some 1:=by
  obtain⟨S,G,r⟩:=bN.1 b;rw[G];simp at r;simp[r]
 have j:∀W,(sizeOf (Tryz.prog.elem 135)).run Tryz.prog W=.ok 1 W:=fun W=>by
  obtain⟨S,G,r⟩:=bN.1 (show(Tryz.prog.info? (Tryz.prog.elem 135)).map (·.size)=some 1 from by kernel_rfl);simp[sizeOf,typeInfo,G,r]
 have l:Tryz.prog.underlying 135=some (.slice (Tryz.prog.elem 135)):=aj;obtain⟨T,hsl⟩:∃T,∀W,(Instr.slice 135 (.slice g n c) (some (.int .i64 (i:Int))) (some (.int .i64 ((i:Int)+1))) (some (.int .i64 (n:Int)))).run Tryz.prog W=.ok T W:=by
  refine⟨sliced (some ⟨g,0,none⟩) ((i:Int)).toNat ((i:Int)+1).toNat ((n:Int)).toNat 1,fun W=>?_⟩;rw[LY W 135 (some ⟨g,0,none⟩) n c l .i64 .i64 .i64 i ((i:Int)+1) n om om om om,j];rfl
 obtain⟨off,u⟩:=lg (if c=i+1 then 0 else(i+1)*1:Nat);have hs1:∀W,(Instr.slice 135 (.slice g n c) none (some (.int .i64 (i:Int))) none).run Tryz.prog W=.ok (.slice g i c) W:=fun W=>by
  rw[zU W 135 (some ⟨g,0,none⟩) n c l .i64 i om om,j];simp[Result.andThen,sliced,Addr.add]
 have hs2:∀W,(Instr.slice 135 (.slice g n c) (some (.int .i64 ((i:Int)+1))) none none).run Tryz.prog W=.ok (.slice (some ⟨g,off,none⟩) (n-(i+1)) (c-(i+1))) W:=fun W=>by
  rw[j4 W 135 (some ⟨g,0,none⟩) n c l .i64 ((i:Int)+1) om om,j,u];have e:((i:Int)+1).toNat=i+1:=by omega
  by_cases M:c=i+1
  ·simp[Result.andThen,sliced,e,M]
  ·simp[Result.andThen,sliced,e,M,eu]
 have hs3:∀W,(Instr.slice 135 (.slice g (n-1) c) (some (.int .i64 ((n-1:Nat):Int))) (some (.int .i64 (n:Int))) none).run Tryz.prog W=.ok (.slice (some ⟨g,(n-1)*1,none⟩) 1 (c-(n-1))) W:=fun W=>by
  rw[BD W 135 (some ⟨g,0,none⟩) (n-1) c l .i64 .i64 ((n-1:Nat):Int) n om om om,j];have M:¬c=n-1:=om;have h2:n-(n-1)=1:=om;simp[Result.andThen,sliced,M,h2,eu]
 have m:i+1<n->off=(i+1)*1:=fun R=>by rw[u,if_neg om]
 have U:∀(W:World),W.heap=w.heap->∀I,∃X,(Builtin.append_ #[135,135] I #[.slice g i c,.slice (some ⟨g,off,none⟩) (n-(i+1)) (c-(i+1))]).run Tryz.prog W=.ok (.slice g (n-1) c) (W.setRow g X)/\X.size=c*1/\X.toList.take ((n-1)*1)=vs.take (i*1)++vs.drop ((i+1)*1):=fun W hW I=>
  QC (B:=B) (k:=1) (h.same fun ad _=>by rw[hW]) hi 135 I aj F Q m
 have hne:((i:Int)==(i:Int)+1)=false:=by simp;omega
 have HR:=ae U;have HI:=ae b;have mixed:Tryz.prog.follows .mixedOrders=true:=aj;clear u m U b F hc ht Q h l j;go_enter Tryz.func258,Tryz.ntmps258
 go_upto_region 5 with fail
 obtain⟨X,hX,J,K⟩:=HR.out w.drew rfl 135;have V:=nX (w:=w.drew) hg X;have N:=ae K;have C:=ae J;clear K J
 go_region_law_o (refine QE rfl _ _ 135 135 rfl _ _ (by simp[Act.eval,Act.put]) (by simp[Act.eval,Act.put]) hX ?_)
 have h4:(n-1)*1+1=n*1:=om;have O:=fun I=>Mq (P:=Tryz.prog) (w:=w.drew.setRow g X) (E:=309) (z:=.slice none 0 0) (n:=1) (us:=[.slice none 0 0]) (o:=(n-1)*1) 135 I aj (fun W=>by obtain⟨S,G,r⟩:=bN.1 HI.out;simp at r;simp[zeroValue,typeInfo,G,r]) (by first|rfl|(simp[Builtin.zeroCells,Value.cells];try rfl)) (by simp[Value.oneCell']) ah (cap:=c-(n-1)) V (by rw[C.out];simp;omega)
 try simp only[nR]at O
 go_wp2_with fail
 go_ret;refine⟨rfl,?_,?_⟩
 ·refine .mk' Z (nX V _) om hm (by simp[C.out];omega) ?_
  first|(rw[lu (by simp[C.out];omega),lu (by simp[C.out];omega),kM,zS,N.out];done)|(rw[lu (by simp[C.out];omega),kM,zS,N.out];done)|(have L:=N.out;simp only[nR]at L⊢;rw[lu (by simp[C.out];omega),kM,zS,L])
 ·exact((bS.refl _ w).drew.trans (xw (w:=w.drew) D X)).trans (xw (by rw[size_setRow];exact D) _)
end
end Go.Proofs.YtmkjnlifimffkaaGreat
