/- Lemmas. -/
import Derived.Test.YtmkjnlifimffkaaGreatG02
import Derived.ChangeMaps5
import Derived.Shelf.Spec.SlicesInsertGrow
import Derived.Shelf.Slices.Cells
import Derived.Shelf.Slices.Clone
import Derived.Shelf.Slices.SearchI
import Derived.Shelf.Slices.Empties
import Derived.Shelf.Slices.Turned
import Derived.Laws.ResultCell
import Derived.Lib.MinMax
import Derived.Deep.LoopGhost
namespace Go.Proofs.YtmkjnlifimffkaaGreat
open Go.RowKit Tryz
set_option linter.all false
set_option maxRecDepth 100000
set_option maxHeartbeats 0
variable{Γ:Prop}
attribute[local irreducible]Calls
variable{u w':World}{A:Option Addr}{R c g i j q r:Nat}{h sz y z:Int}{vs:List Value}{v:Value}
section
variable{w:World}{o n B k:Nat}{t:Tb}{F:Nat->Prop}{b:Bool}{cs:Array Value}{E:TypeId}{x:Value}
theorem aaW(h:kF w B g o cs F t)(hm:(y,z)∈t):() 152 #[.pointer (some ⟨g,o,none⟩),y] w (Hf w B g o cs F (rh t y) (.tuple #[z,.bool true])):=by
 have T:=@bX;have V:=@cJ;have⟨A,n,c,sz,c1,c2,hM,_⟩:=h.cl;have I:=U hM;have J:=U h.qK;have K:=U h.len;have L:=U h;have⟨h1,q,r,R,h2,h3,h4,h6,bD,c3,c4⟩:=hM.entry h.qK hm;have M:Z (iL t y=true):=mI.2 ⟨z,hm⟩;subst h1 h2;obtain⟨j,l⟩:=lh (ip t y);obtain⟨m,hm⟩:=lh t.length;have N:Z (rh t y=t.take j++t.drop (j+1)):=U (by rw[rh,l]);rw[l]at bD c4;rw[hm]at bD c3;have O:=U l;have C:Z (j<t.length):=ay;have o1:Old g w:=⟨cY c1.eq⟩;have X:Old q w:=⟨cY c3.eq⟩;have o3:Old r w:=⟨cY c4.eq⟩;have i1:(j:Int)<(m:Int):=by omega
 rw[N.o];go_in;go_wp2_with (first|(go_at_call 205;refine mv (vt I J K O M) λu1 _=>?_)|(go_at_call 206;refine(VS L.o.at C).mono ?_;rintro e u2 ⟨rfl,P,Q,S,D,G⟩));go_ret2;exact⟨rfl,P,Q,S,D,(Kf.later _ (w:=w)).trans G⟩
theorem aaX(h:kF w B g o cs F t)(hn:Z (iL t y=false))(hl:t.length<=200)(hB:B<=w.1.size):() 202 #[.pointer (some ⟨g,o,none⟩),y,z] w (Hf w B g o cs F (hX t y z) (.bool true)):=by
 have CP:=@bX;have CC:=@cJ;have FB:=@aP;have⟨A,n,c,sz,c1,c2,hM,e1,e2⟩:=h.cl;have HM:=U hM;have HR:=U h.qK;have HL:=U h.len;have kb:Bx w g 141 cs:=⟨h.ak⟩;obtain⟨j,hj⟩:=lh (ip t y);have HJ:=U hj;have HRS:Z (h4 (hX t y z)):=yx h.qK (wY.1 hn);have HTS:Z (hX t y z=t.take j++(y,z)::t.drop j):=U (by rw[hX,hj]);change Z _ at e1 e2;have o1:Old g w:=⟨cY c1.eq⟩;have O:=U hl;have HBB:=U hB;have HJL:Z (j<=t.length):=U (by rw[<-hj];exact Qj _ _);go_in;go_upto_region 6 with(go_at_call 205;refine mv (vt HM HR HL HJ hn) λu1 _=>?_);obtain⟨v,hv⟩:=lg (u1.setCell (g,o+1) (wrap64 (sz+1):Int));have G:Bx u1 g 141 cs:=am;have l:Bx v g 141 (cs.setIfInBounds (o+1) (wrap64 (sz+1):Int)):=⟨by rw[hv];exact G.ak.av (o+1) _⟩;have P:qR v B A n c F t:=by have h9:qR u1 B A n c F t:=HM.o.at;rw[hv];exact h9.keep λb hb=>bb u1 ⟨g,o+1,none⟩ _ b λe=>h9.ne G.ak (by have Q:b=g:=e;rw[<-Q];exact hb)
 have kf:Kf (λb=>F b\/b=g) (λb=>F b\/b=g) w v:=by rw[hv];exact(Kf.later _ (w:=w)).av (.inr rfl) _
 have S:B<=v.1.size:=aQ HBB.o kf.size;have I:Z ((cs.setIfInBounds (o+1) (wrap64 (sz+1):Int))[o]?=some (.slice A n c)):=(iE (show o+1≠o by omega)).trans e1.o;have cgv:Cl v g o (A,n,c):=⟨(l.ak.cell o).trans I⟩;have KF:=U kf;have w4:=U P;have J:=U S;rw[<-hv];clear hv kf P S c1 c2 kb G o1 hB;have o1:Old g v:=⟨l.ak.lt⟩;have T:Z (∀(W:ab) (x:Value) (A2:bz) (n2 c2:Nat) (F':Nat->Prop),x=.slice A2 n2 c2->aA W g 141 ((cs.setIfInBounds (o+1) (wrap64 (sz+1):Int)).setIfInBounds o x)->qR W B A2 n2 c2 F' (hX t y z)->Kf (λb=>F b\/b=g) (λb=>F' b\/b=g) w W->Hf w B g o cs F (hX t y z) (.bool true) (.returned (.bool true)) W):=U λW x A2 n2 c2 F' V hb hm hk=>by (have es:(cs.setIfInBounds (o+1) (wrap64 (sz+1):Int)).setIfInBounds o x=bP cs o x (wrap64 (sz+1):Int):=by unfold bP;apply pK;simp only[zJ];exact List.set_comm _ _ Y);rw[es]at hb;exact⟨rfl,x,_,F',⟨hb,⟨A2,n2,c2,_,by rw[Hg e1.o,V],Bb e2.o _ _,hm⟩,HRS.o,by rw[A0];have:=O.o;omega⟩,hk⟩
 rcases w4.o with⟨h1,h2,C⟩|⟨h1,q,r,R,h2,C,M,h5,h6⟩
 .have H3:=U C;have H2:=U h2;subst h1;clear h2 C;go_wp2_with fail;go_ret;have D6:g<v.1.size:=l.ak.lt;(have K:hX t y z=[(y,z)]:=by rw[H2.o];rfl);refine T.o _ _ (some ⟨v.1.size+1,0,none⟩) 1 1 (λb=>b=v.1.size+1\/b=v.1.size) rfl (((l.ak.alloc _).alloc _).av o _) (.inr ⟨rfl,v.1.size+1,v.1.size,1,rfl,?_,?_,by rw[K];exact Nat.one_pos,λb=>Iff.rfl⟩) ?_;rw[K];exact .mk' (cur:= #[.slice v.1.size 1 1]) (by have:=J.o;omega) (aA.aV (aA.eF _ _ _ aI) (by show v.1.size+1≠g;omega) _) ao ao rfl rfl;rw[K];exact .mk' (cur:= #[y,z]) J (aA.aV ((aA.new v 308 _).alloc _) (by show v.1.size≠g;omega) _) (al _) ao rfl rfl;refine Kf.av (((KF.o.alloc _).alloc _).more (λb hb=>hb) (λb hb=>?_)) (.inr rfl) _;have:=KF.o.size;rcases hb with(hb|hb)|hb;exact .inr (.inr Y);exact .inr (.inr Y);exact .inr (.inl (.inr hb))
 subst h1 h2;have gq:g≠q:=C.RT l.ak ao;have gr:g≠r:=M.RT l.ak ao;have qr:q≠r:=C.neR M ao;have c3:Cl v q 0 (.slice r t R):=⟨by
  obtain⟨g,e,hc⟩:=C.cell (j:=0) rfl;injection e with e;injection e with e;subst e;exact hc⟩
 obtain⟨m,hm⟩:=lh t.length;rw[hm]at C M c3;have H3:=U C;have H4:=U M;have H6:=U h6;have HM9:=U hm;have RU:r<v.1.size:=M.lt _ rfl;have HJM:Z (j<=m):=U (by rw[<-hm];exact HJL.o);have X:Z (m<=200):=U (by rw[<-hm];exact O.o);have HIC:Z ((ic t).take (j*2)++[.int .i64 y,.int .i64 z]++(ic t).drop (j*2)=ic (hX t y z)):=U (by rw[HTS.o,aaV]);clear C M h5 h6 hm hl;go_upto_region 10 with(go_at_call 248;refine er (λu5 p5 k5=>?_);refine(acX (H4.o.at (w':=u5)) (Qn _) (us:=[.int .i64 y,.int .i64 z]) k5.ak rfl (by simp[Value.oneCell']) (λad e=>by injection e with e;subst e;show r≠_;omega) rfl HJM.o (by have:=X.o;omega) (aQ J.o (ai (w:=v) (w':=u5)))).mono ?_;rintro e N ⟨A6,c6,rfl,r6,L⟩;rw[HIC.o]at r6;obtain⟨kb6,D⟩:Bx N g 141 (cs.setIfInBounds (o+1) (wrap64 (sz+1):Int))/\aT N B 309 1 (some ⟨q,0,none⟩) c 1 [.slice r m R]:=⟨⟨L.ak (l.ak.at (w':=u5)) (λad e V=>gr (by injection e with e;subst e;exact V.symm))⟩,(H3.o.at (w':=u5)).jE L (λa a' e Q V=>by injection e with e;injection Q with Q;subst e Q;exact qr V.symm)⟩;obtain⟨cq,fq⟩:Cl N q 0 (.slice r m R)/\N.frozen? ⟨q,0,none⟩=false:=(by obtain⟨cur,hg,_⟩:=D.whole;obtain⟨g5,e5,hc⟩:=D.cell (j:=0) rfl;injection e5 with e5;injection e5 with e5;subst e5;exact⟨⟨hc⟩,by simp[World.frozen?,hg]⟩);have cg6:Cl N g o (q,1,c):=⟨(kb6.ak.cell o).trans I.o⟩);have d2:decide ((256:Int)<(m:Int)+1)=false:=by have:=X.o;simp;omega
 go_wp2_with fail;go_ret;have hl6:(hX t y z).length=m+1:=by rw[A0,HM9.o]
 rcases r6.form with⟨_,h0,_⟩|⟨r',aga,rfl,hB6,hg6,agb,hm6,hc6,ht6⟩;omega;have ad8:q≠r':=D.neR r6 ao;refine T.o _ _ (some ⟨q,0,none⟩) 1 c (λb=>b=q\/b=r') rfl ?_ (.inr ⟨rfl,q,r',c6,rfl,?_,?_,ay,λb=>Iff.rfl⟩) ?_;rw[Ba I.o];exact kb6.ak.aV gq _;rw[hl6];exact D.A9 (i:=0) (.slice r' (m+1) c6);rw[hl6];exact r6.same λad e=>by cases e;exact bb N ⟨q,0,none⟩ _ r' (dp ad8)
 have k5:Kf (λb=>F b\/b=g) (λb=>F b\/b=g) w u5:=KF.o.trans (Kf.later _);refine Kf.av (k5.trans ((Kf.jE L).more (λb hb=>.inl ((H6.o b).2 (.inr (du.1 hb).symm))) (λb hb=>?_))) (.inl (.inl rfl)) _;rcases hb with(hb|hb)|hb;exact .inr (.inl (.inl ((H6.o b).2 (.inl hb))));exact .inl (du.2 hb.symm);grind
end
variable{mp:List (Int×Int)}{T:TypeId}{cur:Array Value}{es:Array MapEntry}
abbrev Hh(x:Int×Int):Value×Value:=(.int .i64 x.1,.int .i64 x.2)
def gC(w:ab)(q:Nat)(mp:List (Int×Int)):Prop:=∃j b,w.heap[q]?=some (.map j b)/\j.toList.map (λe=>(e.key,e.val))=mp.map Hh
section
variable{w:World}{k:Int}{cs:Array Value}
theorem gC.lt(h:gC w q mp):q<w.1.size:=by
 obtain⟨b,c,e,_⟩:=h;grind
def gC.same(h:gC w q mp)(b:w'.heap[q]?=w.heap[q]?):gC w' q mp:=by
 have⟨es,c,h1,h2⟩:=h;exact⟨es,c,b.trans h1,h2⟩
def gC.at(h:gC w q mp)[l:aM w w']:gC w' q mp:=h.same (l.st.block _ h.lt)
theorem gC.ne(h:gC w q mp){f:Nat×Nat}(hb:w.heap[g]?=some (.cells cur T f)):g≠q:=λe=>by
 subst e;have⟨es,c,h1,_⟩:=h;grind
def iW(k:Int):MapKept.IsKey (.int .i64) k:=by simp[MapKept.IsKey]
theorem vu(h:es.toList.map (λe=>(e.key,e.val))=mp.map Hh):∀x∈es.toList,MapKept.IsKey (.int .i64) x.key:=λx b=>by
 have:(x.key,x.val)∈mp.map Hh:=by rw[<-h];exact ay
 have⟨y,_,he⟩:=cw.1 this;have:x.key=.int .i64 y.1:=ay;rw[this];exact iW _
theorem Ah(h:es.toList.map (λe=>(e.key,e.val))=mp.map Hh){e:MapEntry}(b:es.toList[j]?=some e):∃x,mp[j]?=some x/\e.key=.int .i64 x.1/\e.val=.int .i64 x.2:=by
 have l:(es.toList.map (λe=>(e.key,e.val)))[j]?=some (e.key,e.val):=by rw[bo,b];rfl
 grind
def vv:prog.underlying 195=some (.map 3 3):=ap
theorem aaY{x:Int×Int}(b:(mp.map (·.1)).Nodup)(e:mp[j]?=some x)(hm:(x.1,z)∈mp):x=(x.1,z):=by
 have⟨i,hi⟩:=fZ hm;have l:(mp.map (·.1))[j]?=some x.1:=by rw[bo,e];rfl
 have m:(mp.map (·.1))[i]?=some x.1:=by rw[bo,hi];rfl
 have⟨l1,e1⟩:=bj.1 l;have⟨l2,e2⟩:=bj.1 m;have:i=j:=by have hp:=q1.1 b;rcases GH i j with h|h|h;grind;exact h;grind
 grind
theorem gC.look(h:gC w q mp)(m:(mp.map (·.1)).Nodup)(hm:(k,z)∈mp):∀w':World,w'.heap[q]?=w.heap[q]?->(Instr.lookup 195 (.map (some q)) k true).run prog w'=.ok (.tuple #[z,.bool true]) w':=λw' r=>by
 have⟨es,c,h1,h2⟩:=h;have hd:=underlying3;rcases zX (iW k) es.toList 0 (vu h2)with⟨_,l⟩|⟨j,e,u,l,B⟩;exfalso;have:Hh (k,z)∈es.toList.map (λe=>(e.key,e.val)):=by rw[h2];exact ay
 grind;have⟨x,hx,hk,hv⟩:=Ah h2 l;have b:x.1=k:=ay;subst b;have:=aaY m hx hm;have y:x.2=z:=di Prod.snd this;rw[y]at hv;simp[Instr.lookup,eu vv,pM (r.trans h1),zW hd (iW x.1),zZ hd u,Result.andThen,hv]
theorem gC.VT(h:gC w q mp)(hm:k∉mp.map (·.1)):∃w1,(Instr.mapUpdate 195 (.map (some q)) k z).run prog w=.ok () w1/\gC w1 q (mp++[(k,z)])/\(∀b,b≠q->w1.heap[b]?=w.heap[b]?)/\w1.1.size=w.1.size/\Below 0 w w1:=by
 have⟨es,c,h1,h2⟩:=h;have hd:=underlying3;rcases zX (iW k) es.toList 0 (vu h2)with⟨m,_⟩|⟨j,e,m,r,u⟩
 refine⟨ChangeMaps.setBlock w q (.map (es.push {key:=.int .i64 k,val:=.int .i64 z,born:=c}) (c+1)),by simp[Instr.mapUpdate,eu vv,pM h1,zW hd (iW k),zZ hd m,Ad _ h1,Result.andThen,ChangeMaps.setBlock],
  ⟨_,_,zY h1 _,by simp[h2,Hh]⟩,λb l=>aaI h1 _ l,by simp[ChangeMaps.setBlock],⟨rfl,rfl,rfl,by simp[ChangeMaps.setBlock],λb hb=>absurd hb (zE _)⟩⟩
 grind [Ah,List.mem_of_getElem?]
theorem RV{x:Int×Int}(b:(mp.map (·.1)).Nodup)(l:mp[j]?=some x)(z):pV mp x.1 z=mp.set j (x.1,z):=by
 apply eo;intro i;rw[pV,bo,iI];split;grind
 .rename_i m;cases r:mp[i]? with
  |none=>rfl
  |some y=>(have u:y.1≠x.1:=λe=>by (have B:(mp.map (·.1))[j]?=some x.1:=by rw[bo,l];rfl);(have C:(mp.map (·.1))[i]?=some x.1:=by rw[bo,r,<-e];rfl);have⟨l1,e1⟩:=bj.1 B;have⟨l2,e2⟩:=bj.1 C;have hp:=q1.1 b;grind);simp[u]
def zC3(h:Γ:=by (have:Hh x∈es.toList.map (λe=>(e.key,e.val)):=by rw[h2];exact ay);grind):=h
def zC7(h:Γ:=by grind [ChangeMaps.heap_setBlock_other]):=h
theorem gC.VU(h:gC w q mp)(u:(mp.map (·.1)).Nodup)(hm:k∈mp.map (·.1)):∃w1,(Instr.mapUpdate 195 (.map (some q)) k z).run prog w=.ok () w1/\gC w1 q (pV mp k z)/\(∀b,b≠q->w1.heap[b]?=w.heap[b]?)/\w1.1.size=w.1.size/\Below 0 w w1:=by
 have⟨es,c,h1,h2⟩:=h;have hd:=underlying3;rcases zX (iW k) es.toList 0 (vu h2)with⟨_,l⟩|⟨j,e,y,l,B⟩;exfalso;obtain⟨x,r,rfl⟩:=cw.1 hm;exact zC3;have⟨x,r,hk,_⟩:=Ah h2 l;have m:x.1=k:=ay;have C:es[j]?=some e:=by simpa using l
 refine⟨ChangeMaps.setBlock w q (.map (es.modify j λe=>{e with key:=.int .i64 k,val:=.int .i64 z}) c),by simp[Instr.mapUpdate,eu vv,pM h1,zW hd (iW k),zZ hd y,C,B,MapKept.run_keyThatStays (iW k),Ad _ h1,Result.andThen,ChangeMaps.setBlock],
  ⟨_,_,zY h1 _,?_⟩,zC7,by simp[ChangeMaps.setBlock],⟨rfl,rfl,rfl,by simp[ChangeMaps.setBlock],ay⟩⟩
 rw[<-m,RV u r,jb,<-h2,Array.toList_modify];apply eo;grind
theorem gC.del(h:gC w q mp)(E:(mp.map (·.1)).Nodup)(hm:k∈mp.map (·.1)):∃w1,(∀D,(Builtin.delete_ #[195,3] D #[.map (some q),k]).run prog w=.ok (.tuple #[]) w1)/\gC w1 q (mp.filter λe=>e.1 !=k)/\(∀b,b≠q->w1.heap[b]?=w.heap[b]?)/\w1.1.size=w.1.size/\Below 0 w w1:=by
 have⟨es,c,h1,h2⟩:=h;have hd:=underlying3;rcases zX (iW k) es.toList 0 (vu h2)with⟨_,r⟩|⟨j,e,F,r,J⟩;exfalso;obtain⟨x,u,rfl⟩:=cw.1 hm;exact zC3
 have⟨x,u,hk,_⟩:=Ah h2 r;have l:x.1=k:=ay;refine⟨ChangeMaps.setBlock w q (.map (es.eraseIdxIfInBounds (0+j)) c),λD=>by simp[Builtin.delete_,eu vv,pM h1,zW hd (iW k),zZ hd F,Ad _ h1,Result.andThen,ChangeMaps.setBlock],
  ⟨_,_,zY h1 _,?_⟩,zC7,by simp[ChangeMaps.setBlock],⟨rfl,rfl,rfl,by simp[ChangeMaps.setBlock],ay⟩⟩
 have B:=(bj.1 r).1;have C:0+j<es.size:=by simpa using B
 rw[Array.eraseIdxIfInBounds,dif_pos C,Array.toList_eraseIdx,cQ,List.eraseIdx_eq_take_drop_succ,c9,fT,kX,h2,<-fT,<-kX,<-c9];refine di (List.map Hh) ?_;have hp:=q1.1 E;have key:∀i y,mp[i]?=some y->(y.1=k↔i=j):=λi y m=>by constructor;intro e;(have G:(mp.map (·.1))[j]?=some k:=by rw[bo,u,<-l];rfl);(have I:(mp.map (·.1))[i]?=some k:=by rw[bo,m,<-e];rfl);have⟨l1,e1⟩:=bj.1 G;have⟨l2,e2⟩:=bj.1 I;grind;grind
 have hs:=jv u;have c1:(mp.take j).filter (λe=>e.1 !=k)=mp.take j:=List.filter_eq_self.2 λy m=>by have⟨i,hij,hi⟩:=vk m;grind
 have c2:(mp.drop (j+1)).filter (λe=>e.1 !=k)=mp.drop (j+1):=List.filter_eq_self.2 λy m=>by have⟨i,hij,hi⟩:=vl m;grind
 conv=>rhs;rw[hs]
 rw[zS,List.filter_cons,c1,c2,ag (by simp[l])]
end
section
variable{e:Nat}{v':da}{bs:List gb}{A':Option Addr}{F':Nat->Prop}
structure ta where
 Ac:Option Addr
 cc:Nat
 Ab:Option Addr
 cb:Nat
 q:Nat
def ta.F(a:ta)(r b:Nat):Prop:=b=r\/b=a.q\/AF a.Ac b\/AF a.Ab b
def h7(bs:List gb):List Value:=bs.flatMap λb=>[.int .i64 b.h,.int .i64 b.fr,.int .i64 b.wd]
abbrev kl(a:ta)(v:da):Array Value:= #[v.cap,.slice a.Ac v.cs.length a.cc,.slice a.Ab v.bs.length a.cb,.map (some a.q),v.pk,v.nx,v.lv,v.hi,v.pe,v.mv]
structure dk(w:World)(B r:Nat)(a:ta)(v:da):Prop where
 hd:aA w r 197 (kl a v)
 cs:aD w B 65 a.Ac a.cc v.cs
 bs:aT w B 311 3 a.Ab a.cb v.bs.length (h7 v.bs)
 mp:gC w a.q v.mp
 hr:B<=r
 hq:B<=a.q
section
variable{w:World}{B k n:Nat}{a a':ta}{v:da}{b:gb}{x:Value}
def pc(bs:List gb):(h7 bs).length=bs.length*3:=by
 induction bs with
 |nil=>rfl
 |cons t l e=>simp[h7]at e⊢;omega
def jw(bs cs:List gb):h7 (bs++cs)=h7 bs++h7 cs:=by simp[h7]
def Ju(bs:List gb):∀v∈h7 bs,v.oneCell'=true:=λv hv=>by
 have⟨x,_,hx⟩:=pD.1 hv;simp at hx;rcases hx with rfl|rfl|rfl<;>rfl
theorem Hi:∀{bs:List gb} {j:Nat} {x:gb},bs[j]?=some x->(h7 bs)[j*3]?=some (.int .i64 x.h)/\(h7 bs)[j*3+1]?=some (.int .i64 x.fr)/\(h7 bs)[j*3+2]?=some (.int .i64 x.wd)
 |u::l,0,x,h=>by simp at h;subst h;simp[h7]
 |u::l,j+1,x,h=>by have:=Hi (bs:=l) (j:=j) (x:=x) (by simpa using h);(have e:h7 (u::l)=[.int .i64 u.h,.int .i64 u.fr,.int .i64 u.wd]++h7 l:=by simp[h7]);rw[e,eT ch,eT ch,eT ch];simp only[fD,ja];grind
def E6(t:List gb)(j:Nat):h7 (t.take j)=(h7 t).take (j*3):=by
 by_cases h:j<=t.length;conv=>rhs;rw[<-d3 j t,jw]
 rw[hk (by rw[pc,cr,d5 h])];rw[bV Y,bV (by rw[pc];omega)]
def E7(t:List gb)(j:Nat):h7 (t.drop j)=(h7 t).drop (j*3):=by
 by_cases h:j<=t.length;conv=>rhs;rw[<-d3 j t,jw]
 rw[sF (by rw[pc,cr,d5 h])];rw[eU Y,eU (by rw[pc];omega)];rfl
theorem VV{bs:List gb}{j:Nat}{x:gb}(l:bs[j]?=some x)(t:Nat):h7 (bs.set j ⟨x.h,t,x.wd⟩)=(h7 bs).set (j*3+1) t:=by
 have D:=(bj.1 l).1;have e:=jv l;have C:bs.set j ⟨x.h,t,x.wd⟩=bs.take j++⟨x.h,t,x.wd⟩::bs.drop (j+1):=ay;rw[C];conv=>rhs;rw[e]
 have m:∀y:gb,h7 (y::bs.drop (j+1))=[.int .i64 y.h,.int .i64 y.fr,.int .i64 y.wd]++h7 (bs.drop (j+1)):=λy=>by simp[h7]
 rw[jw,jw,m,m,ky _ _ (by rw[pc,cr];omega)];rw[pc,cr,d5 Y,show j*3+1-j*3=1 from Y];rfl
def dk.at(h:dk w B r a v)[l:aM w w']:dk w' B r a v:=⟨h.hd.at,h.cs.keep l.st,h.bs.at,h.mp.at,h.hr,h.hq⟩
theorem dk.apart(h:dk w B r a v):r≠a.q/\(∀b,AF a.Ac b->b≠r/\b≠a.q/\¬AF a.Ab b)/\∀b,AF a.Ab b->b≠r/\b≠a.q:=by
 have hb:=h.hd;unfold aA at hb;refine⟨h.mp.ne hb,λb m=>?_,λb m=>?_⟩;have⟨_,_,cur,l⟩:=h.cs.af m;refine⟨λe=>?_,h.mp.ne l,λhd=>?_⟩;subst e;rw[hb]at l;injection l with l;injection l with _ C;exact absurd C ao;have⟨_,_,agc,C⟩:=h.bs.af hd;grind;have⟨_,_,cur,l⟩:=h.bs.af m;refine⟨λe=>?_,h.mp.ne l⟩;grind
def dk.lt(h:dk w B r a v):∀b,a.F r b->B<=b/\b<w.1.size:=λb hb=>by
 rcases hb with rfl|rfl|hb|hb;exact⟨h.hr,h.hd.lt⟩;exact⟨h.hq,h.mp.lt⟩;have⟨h1,h2,_⟩:=h.cs.af hb;exact⟨h1,h2⟩;have⟨h1,h2,_⟩:=h.bs.af hb;exact⟨h1,h2⟩
def dk.keep(h:dk w B r a v)(l:∀b,a.F r b->w'.heap[b]?=w.heap[b]?):dk w' B r a v:=
 ⟨(l r (.inl rfl)).trans h.hd,h.cs.same λm e=>l _ (.inr (.inr (.inl ⟨m,e,rfl⟩))),h.bs.same λm e=>l _ (.inr (.inr (.inr ⟨m,e,rfl⟩))),h.mp.same (l _ (.inr (.inl rfl))),h.hr,h.hq⟩
def dk.kf(h:dk w B r a v){F:Nat->Prop}(e:Kf F F' w w')(hF:∀b,a.F r b->¬F b):dk w' B r a v:=h.keep λb hb=>e.keep b (h.lt b hb).2 (hF b hb)
def dk.vw(h:dk w B r a v){x:Value}(m:kl a v'=(kl a v).setIfInBounds i x)(C:v'.cs=v.cs)(D:v'.bs=v.bs)(E:v'.mp=v.mp):dk (w.setCell (r,i) x) B r a v':=by
 have⟨p1,p2,p3⟩:=h.apart;refine⟨?_,?_,?_,?_,h.hr,h.hq⟩;rw[m];exact h.hd.av i x;rw[C];exact h.cs.same λl e=>bb w ⟨r,i,none⟩ _ _ (p2 _ ⟨l,e,rfl⟩).1;rw[D];exact h.bs.same λl e=>bb w ⟨r,i,none⟩ _ _ (p3 _ ⟨l,e,rfl⟩).1;rw[E];exact h.mp.same (bb w ⟨r,i,none⟩ _ _ (dp p1))
def dk.ak(h:dk w B r a v)(hi:v.bs[i]?=some b):∃g,a.Ab=some ⟨g,0,none⟩/\Cl w g (i*3) (.int .i64 b.h)/\Cl w g (i*3+1) (.int .i64 b.fr)/\Cl w g (i*3+2) (.int .i64 b.wd):=by
 have⟨c0,c1,c2⟩:=Hi hi;have⟨g,e,h0⟩:=h.bs.cell c0;have⟨g1,l,h1⟩:=h.bs.cell c1;have⟨g2,m,h2⟩:=h.bs.cell c2;rw[e]at l m;injection l with l;injection l with l;injection m with m;injection m with m;subst l m;exact⟨g,e,⟨h0⟩,⟨h1⟩,⟨h2⟩⟩
theorem b8.small(hv:b8 v)(hi:v.bs[i]?=some b):b.fr+b.wd<=16777216/\1<=b.wd:=by
 grind
def mc(h:Z (dk w B r a v))(hv:Z (b8 v))(hi:Z (i<=v.bs.length))(E:y=(i:Int)-1)(l:Z (dY v.bs i=e)):() 246 #[.pointer r,y] w (aL w (e:Int)):=by
 obtain⟨J,K⟩:=hY;have L:=@cJ;subst E;match i,hi,l with
 |0,hi,l=>(obtain rfl:e=0:=by rw[<-l.o];rfl);(have d1:decide (((0:Nat):Int)-1<0)=true:=by decide);go_in;go_wp2;go_ret;exact bF
 |i+1,hi,l=>have D:Bx w r 197 (kl a v):=⟨h.o.hd⟩;have C:i<v.bs.length:=hi.o;obtain⟨b,hb⟩:∃b,v.bs[i]?=some b:=⟨_,bk C⟩;have⟨g,hA,c0,c1,c2⟩:=h.o.ak hb;have F:=hv.o.small hb;have G:Z (b.fr+b.wd=e):=U (by rw[<-l.o,mH hb]);(have I:((i+1:Nat):Int)-1=(i:Int):=by omega);have M:Old g w:=⟨cY c1.eq⟩;have⟨Ac,cc,Ab,cb,q⟩:=a;dsimp only at hA;subst hA;(have N:IntKind.i64.wrap ((b.fr:Int)+(b.wd:Int))=(b.fr:Int)+(b.wd:Int):=by rw[a7];omega);rw[I];obtain⟨m,hm⟩:=lh v.bs.length;dsimp only[kl]at D;rw[hm]at C D;(have i1:(i:Int)<(m:Int):=by omega);(have d1:decide ((i:Int)<0)=false:=by simp);go_in;go_upto_region 3 with fail;refine aq ap (λO _=>?_);refine qL [0,1,2,3,4,5,6,7,8,9,10,11,12,13,14,15,16,17] ?_;refine a8 ?_;go_wp2;go_ret;exact⟨by rw[<-G.o];rfl,aC⟩
def zC1(h:Γ:=by have e:=@az;have l:Bx w r 197 (kl a v):=⟨h.hd⟩;go_in;go_wp2;go_ret;exact⟨rfl,⟨aY _ _⟩⟩):=h
def VW(h:dk w B r a v):() 56 #[.pointer r] w (aL w (.int .i64 v.pe)):=by
 exact zC1
def VX(h:dk w B r a v):() 57 #[.pointer r] w (aL w (.int .i64 v.hi)):=by
 exact zC1
def RW(h:dk w B r a v):() 58 #[.pointer r] w (aL w (.int .i64 v.mv)):=by
 exact zC1
def ar0(cap:Nat):da:=⟨cap,[],[],[],0,0,0,0,0,0⟩
def aaZ{cap:Nat}(h:cap<=16777216):b8 (ar0 cap):=
 ⟨⟨List.Pairwise.nil,λb hb=>(by cases hb)⟩,aR _,h,aR _,rfl,List.Pairwise.nil,λb hb=>(by cases hb),aR _,List.Pairwise.nil,λb hb=>(by cases hb),λe l=>(by cases l)⟩
def aa0{cap:Nat}(h:cap<=16777216):() 96 #[cap] w λe w'=>∃r a,e=.returned (.tuple #[.pointer (some ⟨r,0,none⟩),an])/\dk w' w.1.size r a (ar0 cap)/\aj w' w:=by
 have l:=@run_makeMap prog;have d1:decide ((16777216:Int)<(cap:Int))=false:=by simp;omega
 have m:decide ((cap:Int)<0)=false:=by simp
 go_in;go_wp2;go_ret2;exact⟨w.1.size+1,⟨none,0,none,0,w.1.size⟩,rfl,⟨aA.eF _ _ _ aI,aD.nil _ _ _,⟨rfl,.inl ⟨rfl,rfl⟩⟩,⟨#[],0,(nM _ _ _ aI).trans (jP w _),rfl⟩,db _,al _⟩,aC⟩
end
end
variable{b off vb:Nat}{zs:List Int}{x:Int}
section
open Go.RowKit Go.Shelf
def rI:Ren:=⟨λn=>if n=15 then 86 else if n=21 then 189 else if n=23 then 187 else if n=25 then 188 else if n=27 then 229 else if n=28 then 230 else if n=31 then 227 else if n=32 then 228 else if n=35 then 266 else if n=37 then 265 else if n=39 then 281 else if n=107 then 140 else if n=108 then 192 else 0,
 λn=>if n=0 then 0 else if n=3 then 3 else if n=4 then 4 else if n=22 then 24 else if n=28 then 24 else if n=40 then 96 else 0,λn=>n⟩
def bg:Lays2.n21 prog rI where
 mixed:=ap
 f21:=func189
 f27:=func229
 f28:=func230
 f35:=func266
 f39:=func281
 t0:=underlying0
 a0:=isAgg0
 z0:=sizeOf0
 v0:=zeroValue0
 t3:=underlying3
 a3:=isAgg3
 z3:=sizeOf3
 v3:=zeroValue3
 t4:=underlying4
 a4:=isAgg4
 z4:=sizeOf4
 v4:=zeroValue4
 t22:=underlying24
 a22:=isAgg24
 z22:=sizeOf24
 v22:=zeroValue24
 i3:=ap
def acZ:Lays2.n23 prog rI:=⟨bg.mixed,func187,bg.t0,bg.a0,bg.z0,bg.v0,bg.t3,bg.a3,bg.z3,bg.v3,bg.t4,bg.a4,bg.z4,bg.v4,bg.t22,bg.a22,bg.z22,bg.v22,bg.i3⟩
def VY:Lays2.n25 prog rI:=⟨bg.mixed,func188,func227,func228,func265,bg.t0,bg.a0,bg.z0,bg.v0,bg.t3,bg.a3,bg.z3,bg.v3,bg.t4,bg.a4,bg.z4,bg.v4,bg.t22,bg.a22,bg.z22,bg.v22,underlying96,isAgg96,sizeOf96,zeroValue96⟩
def MU:Lays2.n15 prog rI:=⟨bg.mixed,func86,bg.t3,bg.a3,bg.z3,bg.v3,bg.t4,bg.a4,bg.z4,bg.v4,bg.t22,bg.a22,bg.z22,bg.v22,bg.i3⟩
def Qq:Lays.n107 prog rI:=⟨bg.mixed,func140,func192,bg.t0,bg.a0,bg.z0,bg.v0,bg.t3,bg.a3,bg.z3,bg.v3,bg.t4,bg.a4,bg.z4,bg.v4,bg.t22,bg.a22,bg.z22,bg.v22⟩
section
variable{w:World}{B:Nat}{n:Nat}
def aD.row(h:aD w B 3 A c zs):aT w B 3 1 A c zs.length (zs.map (Value.int .i64)):=h
def aT.own(h:aT w B 3 1 A c n (zs.map (Value.int .i64))):aD w B 3 A c zs/\n=zs.length:=by
 have e:n=zs.length:=by have:=h.1;simp at this;exact this.symm
 subst e;exact⟨h,rfl⟩
theorem vx(h:Rd w (some ⟨b,off,none⟩) zs):∀j,j<zs.length->w.cell? (b,off+j)=some (.int .i64 (zs.getD j 0)):=λj e=>by
 rw[a5,bk e];exact h.all ay
theorem MV{α:Type}{L b:List α}{v:α}{n:Nat}(h:L.length=n):(L++v::b).take (n+1)=L++[v]:=by
 grind
def sL(zs:au):∀v∈zs.map (Value.int .i64),v.oneCell'=true:=λv hv=>by
 obtain⟨z,_,rfl⟩:=cw.1 hv;rfl
theorem Jv(h:aD w B 3 A c zs){x:Int}(z:x=(i:Int))(C:y=(j:Int))(m:i<=j)(D:j<=zs.length)(E:0<zs.length):
  () 187 #[.slice A zs c,x,y] w λe w'=>e=.returned (.slice A (zs.take i++zs.drop j).length c)/\aD w' B 3 A c (zs.take i++zs.drop j)/\dj A A w w':=by
 subst z C;have r:=h.rd;rcases h.form with⟨_,rfl,_⟩|⟨g,l,rfl,F,hg,G,hm,I,ht⟩;simp at E;have u:∀j,w.frozen? ⟨g,0+j,none⟩=false:=λj=>by simp[World.frozen?,hg]
 refine(Any.slices_Delete_int_cells acZ g 0 zs.length c i j zs w (al _) G (by unfold maxLen at hm;omega) m D (vx r) (λj _=>u j)).mono ?_;rintro e w' ⟨rfl,q,rfl⟩;have el:(zs.take i++zs.drop j).length=zs.length-(j-i):=by simp;omega
 have b:((w.drewN q).setCells g 0 (((zs.take zs.length).take i++(zs.take zs.length).drop j++List.replicate (j-i) 0).map (Value.int .i64))).heap[g]?=some (.cells (tV l 0 (((zs.take zs.length).take i++(zs.take zs.length).drop j++List.replicate (j-i) 0).map (Value.int .i64))) 3 (0,0)):=
  ey g _ 0 _ l _ _ hg
 refine⟨by rw[el],?_,((dj.refl _ w).drewN q).setCells 0 _ rfl⟩;refine((aT.mk' (k:=1) (n:=(zs.take i++zs.drop j).length) F b Y hm (by rw[g9];omega) ?_).own (zs:=zs.take i++zs.drop j)).1;rw[hV _ _ _ ch,ek];simp only[d8,jN,fm,c9,hM];grind
theorem Jw(h:Rd w A zs)(r:zs.length<=1000000000)(hs:zs.Pairwise (· <= ·)):
  () 188 #[.slice A zs c,x] w (aL w (.tuple #[.int .i64 (zs.countP (· <x):Nat),.bool (zs.contains x)])):=by
 by_cases m:zs=[];subst m;exact(Any.slices_BinarySearch_int_empty VY A c x w).mono λe w' ⟨j,l⟩=>⟨j,l▸aC⟩;obtain⟨z,t,rfl⟩:=zI m;obtain⟨b,off,rfl,hb,_⟩:=h 0 z rfl;have:=Any.slices_BinarySearch_int VY b off (z::t).length c (z::t) x w (al _) Y (vx h) ay;rw[ek]at this;exact this.mono λe w' ⟨j,q,l⟩=>⟨j,l▸aC⟩
def VZ(w:ab)(B:Nat)(A:bz)(zs:au)(e:Ending)(w':ab):Prop:=∃b j,e=.returned (.slice b zs j)/\aD w' B 3 b j zs/\dj A b w w'
def zC5(h:Γ:=by simp[Builtin.zeroCells,Value.cells];omega):=h
def zC6(h:Γ:=by unfold maxLen;omega):=h
theorem Jx(h:aD w B 3 A c zs)[hb:Bx w vb 3 #[x]](hv:∀R,A=some R->vb≠R.block)(T:y=(i:Int))(hi:i<=zs.length)(hn:zs.length<=1000000000)(M:B<=w.1.size):
  () 189 #[.slice A zs c,y,(vb,1,1)] w (VZ w B A (zs.take i++x::zs.drop i)):=by
 subst T;have N:=h.rd;have V:=hb.ak.cell 0;have l:∀j v,[Value.int .i64 x][j]?=some v->w.cell? (vb,0+j)=some v:=ay;have m:∀v∈[Value.int .i64 x],v.oneCell'=true:=λv hv=>by rw[de.1 hv];rfl
 have b:(zs.take i++x::zs.drop i).length=zs.length+1:=by simp;omega
 have C:(zs.take i++x::zs.drop i).map (Value.int .i64)=(zs.map (Value.int .i64)).take i++[Value.int .i64 x]++(zs.map (Value.int .i64)).drop i:=aI;rcases h.form with⟨rfl,rfl,rfl⟩|⟨g,cur,rfl,J,hg,hl,hm,S,ht⟩;obtain rfl:i=0:=by simpa using hi
 refine(Any2.slices_Insert_int_end_grow bg none 0 0 vb 0 1 1 [] [Value.int .i64 x] w Y Y Y Y rfl rfl (λ_=>rfl) (λa e=>by cases e) l m).mono ?_;rintro e w' ⟨rfl,rfl⟩;refine⟨some ⟨w.1.size,0,none⟩,_,rfl,?_,dj.fresh ((aY _ _).drew.alloc (al _) _) (al _)⟩;refine((aT.mk' (k:=1) (n:=1) (vs:=[x].map (Value.int .i64)) M (jP w.drew _) (aQ (al 1) (pL w _ _ _)) (sD w _ _ _ zC6) ?_ ?_).own).1;have:=pL w (0+1) 0 (rI.t 3);generalize grownCap w (0+1) 0 (rI.t 3)=G at this⊢;exact zC5;simp;have O:∀j,j<c->(w.cell? (g,j)).isSome=true:=λj I=>by simp[World.cell?,hg,S,I]
 have X:∀j,w.frozen? ⟨g,j,none⟩=false:=λj=>by simp[World.frozen?,hg]
 have K:c<=9223372036854775807:=by unfold maxLen at hm;omega
 have D:∀j v,(zs.map (Value.int .i64))[j]?=some v->w.cell? (g,0+j)=some v:=λj v I=>by rw[bo]at I;obtain⟨z,hz,rfl⟩:=bJ.1 I;exact N.all hz
 by_cases r:zs.length+1<=c;by_cases E:i<zs.length;refine(Any2.slices_Insert_int_shift bg g 0 zs.length c i vb 0 1 1 (zs.map (Value.int .i64)) [Value.int .i64 x] w E Y r K (hv _ rfl) aI rfl D ay ay l (sL zs) m 3 3 1 c (by have:=hb.ak;unfold aA at this;simp[World.shape?,this]) (by simp[World.shape?,hg,S]) Y (hb.ak.frozen _) (hb.ak.frozen _)).mono ?_;rintro e w' ⟨rfl,rfl⟩;refine⟨some ⟨g,0,none⟩,c,by rw[b],?_,((((dj.refl _ w).drew).setCells _ _ rfl).setCells _ _ rfl)⟩;have u:=ey g ((zs.map (Value.int .i64)).drop i) (0+(i+1)) w.drew cur _ _ hg;have F:=ey g [Value.int .i64 x] (0+i) _ _ _ _ u;refine((aT.mk' (k:=1) (n:=(zs.take i++x::zs.drop i).length) J F Y hm (by rw[g9,g9];omega) ?_).own (zs:=zs.take i++x::zs.drop i)).1;have:=MF (cur:=cur) (cs:=zs.map (Value.int .i64)) (vs:=[.int .i64 x]) (a:=i) ch ay ch;rw[C,b,fm,<-this];simp;obtain rfl:i=zs.length:=Y;refine(Any2.slices_Insert_int_end_room bg g 0 zs.length c vb 0 1 1 [Value.int .i64 x] w Y r K rfl ay ay l m).mono ?_;rintro e w' ⟨rfl,rfl⟩;refine⟨some ⟨g,0,none⟩,c,by rw[b],?_,(dj.refl _ w).setCells _ _ rfl⟩;have u:=ey g [Value.int .i64 x] (0+zs.length) w cur _ _ hg;refine((aT.mk' (k:=1) (n:=(zs.take zs.length++x::zs.drop zs.length).length) J u Y hm (by rw[g9];omega) ?_).own (zs:=zs.take zs.length++x::zs.drop zs.length)).1;have:=VF (cur:=cur) (cs:=zs.map (Value.int .i64)) (vs:=[.int .i64 x]) ay ch;grind;have P:c=zs.length:=Y;subst P;by_cases E:i<zs.length;refine(Any2.slices_Insert_int_grow bg g 0 zs.length zs.length i vb 0 1 1 (zs.map (Value.int .i64)) [Value.int .i64 x] w E Y (al _) Y Y aI rfl D l (sL zs) m).mono ?_;rintro e w' ⟨rfl,rfl⟩
 have L:Below w.1.size w (((w.alloc (.cells (((zs.map (Value.int .i64)).take i).toArray++Builtin.zeroCells (Value.int .i64 0).cells (zs.length+1-i)++Builtin.zeroCells (Value.int .i64 0).cells (grownCap w (zs.length+1) zs.length (rI.t 3)-(zs.length+1))) (rI.t 3))).drew.setCells w.1.size i [Value.int .i64 x]).drew):=
  (dH (al _) _ _ ((aY _ w).alloc (al _) _).drew).drew
 refine⟨some ⟨w.1.size,0,none⟩,_,by rw[b],?_,dj.fresh (dH (al _) _ _ L) (al _)⟩;have u:=ey w.1.size [Value.int .i64 x] i (w.alloc (.cells (((zs.map (Value.int .i64)).take i).toArray++Builtin.zeroCells (Value.int .i64 0).cells (zs.length+1-i)++Builtin.zeroCells (Value.int .i64 0).cells (grownCap w (zs.length+1) zs.length (rI.t 3)-(zs.length+1))) (rI.t 3))).drew _ _ _ (jP w _);have F:=ey w.1.size ((zs.map (Value.int .i64)).drop i) (i+1) (((w.alloc (.cells (((zs.map (Value.int .i64)).take i).toArray++Builtin.zeroCells (Value.int .i64 0).cells (zs.length+1-i)++Builtin.zeroCells (Value.int .i64 0).cells (grownCap w (zs.length+1) zs.length (rI.t 3)-(zs.length+1))) (rI.t 3))).drew.setCells w.1.size i [Value.int .i64 x]).drew) _ _ _ u;have Q:=pL w (zs.length+1) zs.length (rI.t 3);refine((aT.mk' (k:=1) (n:=(zs.take i++x::zs.drop i).length) M F Y (sD w _ _ _ zC6) (by rw[g9,g9];simp[Builtin.zeroCells,Value.cells];omega) ?_).own (zs:=zs.take i++x::zs.drop i)).1;have:=RL (cs:=zs.map (Value.int .i64)) (vs:=[.int .i64 x]) (a:=i) (cur:=((zs.map (Value.int .i64)).take i).toArray++Builtin.zeroCells (Value.int .i64 0).cells (zs.length+1-i)++Builtin.zeroCells (Value.int .i64 0).cells (grownCap w (zs.length+1) zs.length (rI.t 3)-(zs.length+1))) (qab:=(Builtin.zeroCells (Value.int .i64 0).cells (zs.length+1-i)++Builtin.zeroCells (Value.int .i64 0).cells (grownCap w (zs.length+1) zs.length (rI.t 3)-(zs.length+1))).toList) ch aI (by simp[Builtin.zeroCells,Value.cells];omega);rw[C,b,fm,<-this];simp;obtain rfl:i=zs.length:=Y;refine(Any2.slices_Insert_int_end_grow bg g zs.length zs.length vb 0 1 1 (zs.map (Value.int .i64)) [Value.int .i64 x] w Y (al _) Y Y aI rfl (λe=>by cases e) (λa e j v I=>by cases e;rw[cf];exact D j v I) l m).mono ?_;rintro e w' ⟨rfl,rfl⟩;refine⟨some ⟨w.1.size,0,none⟩,_,by rw[b],?_,dj.fresh ((aY _ _).drew.alloc (al _) _) (al _)⟩;have Q:=pL w (zs.length+1) zs.length (rI.t 3);refine((aT.mk' (k:=1) (n:=(zs.take zs.length++x::zs.drop zs.length).length) M (jP w.drew _) Y (sD w _ _ _ zC6) ?_ ?_).own (zs:=zs.take zs.length++x::zs.drop zs.length)).1;exact zC5;rw[b,fm];simp;exact MV aI
def Bc(w:ab)(zs:au)(e:Ending)(w':ab):Prop:=∃A c,e=.returned (.slice A zs c)/\aD w' w.1.size 3 A c zs/\aj w' w
theorem MW[a:Sl w A n zs](D:n<=1000000):() 86 #[(A,n,c)] w (Bc w zs):=by
 obtain⟨a,rfl⟩:=a;match A,a with
 |none,a=>
  obtain rfl:zs=[]:=by
   cases zs with
   |nil=>rfl
   |cons z t=>obtain⟨b,off,e,_⟩:=a 0 z rfl;cases e
  exact(Any.slices_Clone_int_nil MU 0 c w).mono λe w' ⟨r,u⟩=>⟨none,0,r,aD.nil _ _ _,u▸aC⟩
 |some y,a=>(have fin:∀(e:Ending) (w':ab),(∃j,e=.returned j/\w'.ownsRow w.1.size 3 1 j zs.length (zs.map (Value.int .i64))/\j≠.slice none 0 0/\Below w.1.size w w')->Bc w zs e w':=by rintro e w' ⟨j,rfl,m,_,hb⟩;rcases m.2 with⟨rfl,l⟩|⟨g,cap,C,rfl,_⟩;grind;exact⟨some ⟨g,0,none⟩,cap,rfl,m,⟨hb⟩⟩);by_cases l:zs=[];subst l;exact(Any.slices_Clone_int_zero MU y c w).mono λe w' h=>fin e w' h;obtain⟨z,t,rfl⟩:=zI l;have⟨b,off,e,hb,_⟩:=a 0 z rfl;injection e with e;subst e;have:=Any.slices_Clone_int MU b off (z::t).length c (z::t) w (al _) Y (vx a);rw[ek]at this;exact this.mono λe w' h=>fin e w' h
def tC[a:Sl w A n zs](r:n<=1000000){v:Bool}(hv:Z (zs.contains x=v)):() 140 #[(A,n,c),x] w (aL w (.bool v)):=by
 obtain⟨a,rfl⟩:=a;by_cases m:zs=[];subst m;refine(Any.slices_Contains_int_empty Qq A c x w).mono λe w' ⟨j,l⟩=>⟨?_,l▸aC⟩;rw[j,<-hv.o];rfl;obtain⟨z,t,rfl⟩:=zI m;obtain⟨b,off,rfl,hb,_⟩:=a 0 z rfl;have:=Any.slices_Contains_int Qq b off (z::t).length c (z::t) x w (al _) Y (vx a);rw[ek,hv.o]at this;exact this.mono λe w' ⟨j,l⟩=>⟨j,l▸aC⟩
end
end
variable{d fr m wd:Nat}{a':ta}{v':da}{bs:List gb}{A':Option Addr}{xs:List Int}
section
open Go.RowKit Go.Shelf
section
variable{w:World}{B k n:Nat}{a:ta}{v:da}{b:gb}{x:Value}
theorem MX[s:Sl w (some ⟨g,j,none⟩) n zs](S:n<=1000000):() 261 #[.slice (some ⟨g,j,none⟩) n c] w (λe w'=>∃A c,e=.returned (.slice A n c)/\aD w' w.1.size 65 A c zs/\aj w' w):=by
 have⟨i,hi,e6⟩:=bJ.1 (show(prog.info? 65).map (λi=>(i.zero,i.size,i.bytes))=some (some (.int .i64 0),1,8)from by kernel_rfl);simp only[dS]at e6;obtain⟨E,F,G⟩:=e6;have D:n=zs.length:=s.len;have p1:aj (w.alloc (.cells #[] 65)) w:=am;have I:(w.alloc (.cells #[] 65)).ownsRow w.1.size 65 1 (w,0,0) 0 []:=aT.mk' (cur:= #[]) (al _) (jP w _) (al _) (aR _) rfl rfl;have J:Sl (w.alloc (.cells #[] 65)) (some ⟨g,j,none⟩) n zs:=am;have R:=λK=>Gx (P:=prog) (w.alloc (.cells #[] 65)) w.1.size 26 K 65 i _ 1 8 ap hi E F G rfl ao _ 0 _ I ⟨g,j,none⟩ n c (zs.map (Value.int .i64)) (by simp[D]) (λk u hu=>by
  rw[bo]at hu;obtain⟨z,L,rfl⟩:=bJ.1 hu;rw[cf];exact J.rd.all L) (sL zs) zC6 Y aI
 obtain⟨v',w',hr,l,hg,-,-⟩:=R 26;have M:∀W,(binOp .eql 26 (.slice (some ⟨g,j,none⟩) n c) ()).run prog W=.ok (.bool false) W:=λW=>Lib.run_eql_slice_nil W 26 65 _ _ _ _ _ ap;change Z _ at l hg D;go_in;go_wp2_with (at_builtin;refine Lib.wpList_append_run _ rfl _ _ 26 26 rfl _ _ rfl rfl _ _ hr ?_)
 go_ret;have hb:Below w.1.size w w':=((aY w.1.size w).alloc (al _) _).grown hg.o aI (λk N=>by
  rw[cX]at N
  grind)
 have C:=l.o;rw[cQ,jN]at C;rcases C.2 with⟨rfl,O⟩|⟨g,cap,cur,rfl,_⟩;have Q:=D.o;rw[O]at Q C⊢;obtain rfl:zs=[]:=ay;exact⟨none,0,rfl,aD.nil _ _ _,⟨hb⟩⟩;refine⟨some ⟨g,0,none⟩,cap,rfl,?_,⟨hb⟩⟩;rw[D.o]at C;exact C
def Hj(e: -4611686018427387904<=(fr:Int)-y/\(fr:Int)-y<=4611686018427387904):() 260 #[.agg #[z,fr,wd],y] w (aL w ((fr:Int)-y:Int)):=by
 have l:=@az;have w1:IntKind.i64.wrap ((fr:Int)-y)=(fr:Int)-y:=by rw[a7];omega
 go_in;go_wp2;go_ret;exact bF
theorem Qr(l:kA bs m){i j:Nat}{a b:gb}(e:i<j)(C:bs[i]?=some a)(hb:bs[j]?=some b):a.fr<b.fr:=by
 have D:=l.lt e C hb;grind
theorem ad9(M:Z (aT w B 311 3 A c n (h7 bs)))(K:Z (kA bs m))(hm:Z (m<=16777216))(hn:Z (bs.length=n))(hn2:n<=16777216)(hi:Z (bs[i]?=some b))(L:Z (y=(b.fr:Int))):
  () 259 #[(A,n,c),y,.func (.func 260) #[] #[]] w (aL w (.tuple #[i,.bool true])):=by
 have CP:=@bX;have CC:=@cJ;have EG:∀args w,(callFunc 260 args).run prog w=.ok (.enter 260 args) w:=enters_of func260 ap rfl;have N:i<n:=by have:=(bj.1 hi).1;rw[hn.o]at this;exact this
 have G:Z (∀k,k<n->∃(g:Nat) (e:gb),A=some ⟨g,0,none⟩/\Old g w/\Cl w g (k*3) (.int .i64 e.h)/\Cl w g (k*3+1) (.int .i64 e.fr)/\Cl w g (k*3+2) (.int .i64 e.wd)/\Z (bs[k]?=some e)/\e.fr<=16777216):=U λk O=>by have l:bs[k]?=some (bs[k]'(by rwa[hn.o])):=ay;have⟨c0,c1,c2⟩:=Hi l;have⟨g,e,P⟩:=M.o.cell c0;have⟨g1,D,Q⟩:=M.o.cell c1;have⟨g2,E,h2⟩:=M.o.cell c2;rw[e]at D E;injection D with D;injection D with D;injection E with E;injection E with E;subst D E;have:=K.o.bd _ (aK l);exact⟨g,_,e,⟨cY P⟩,⟨P⟩,⟨Q⟩,⟨h2⟩,U l,by have:=hm.o;omega⟩
 have I:=U N;have D7:b.fr<=16777216:=by have:=K.o.bd _ (aK hi);have:=hm.o;omega
 go_in;go_wp2_with fail;go_loopw [9,10] (λs t wr=>∃lo hi:Nat,lo<=i/\i<=hi/\hi<=n/\s=.int .i64 (lo:Int)/\t=.int .i64 (hi:Int)/\aj wr w) (λs t _=>(intOf t-intOf s).toNat);case atStart=>exact⟨0,n,aR _,eW I.o,al _,rfl,rfl,aC⟩
 case round=>
  obtain⟨lo,F,R,S,T,rfl,rfl,hp⟩:=hrel;by_cases bD:lo<F
  .obtain⟨k,O⟩:=lg ((lo+F)/2:Nat);obtain⟨g,e,rfl,ob,c0,c1,c2,l,V⟩:=G.o k Y;(have hdv:((lo:Int)+(F:Int))/2=(k:Int):=by omega);have hml:lo<=k:=Y;have hmh:k<F:=Y;(have J: -4611686018427387904<=(e.fr:Int)-y/\(e.fr:Int)-y<=4611686018427387904:=by have:=L.o;omega);have C:=U J;clear O J;by_cases hx:k<i
   .have hc:decide ((e.fr:Int)-y<0)=true:=by have:=Qr K.o hx l.o hi.o;have:=L.o;simp;omega
    go_wp2_with (go_at_fn 260;refine(Hj C.o).mono ?_;rintro e u ⟨rfl,_⟩);go_roundw;(case rel=>exact⟨k+1,F,Y,S,T,by go_num,rfl,aC⟩);simp[intOf];omega
   have hc:decide ((e.fr:Int)-y<0)=false:=by have P:=L.o;by_cases Q:k=i;subst Q;have X:=l.o.symm.trans hi.o;obtain rfl:=cU X;simp;omega;have:=Qr K.o (show i<k by omega) hi.o l.o;simp;omega
   go_wp2_with (go_at_fn 260;refine(Hj C.o).mono ?_;rintro e u ⟨rfl,_⟩);go_roundw;exact⟨lo,k,R,Y,Y,rfl,rfl,aC⟩;simp[intOf];omega
  obtain rfl:lo=F:=Y;obtain rfl:lo=i:=Y;obtain⟨g,e,rfl,ob,c0,c1,c2,l,V⟩:=G.o lo I;have X:=l.o.symm.trans hi;obtain rfl:=cU X;(have hz:(e.fr:Int)-y=0:=by have:=L.o;omega);have C:Z (-4611686018427387904<=(e.fr:Int)-y/\(e.fr:Int)-y<=4611686018427387904):=U Y;(have d2:((e.fr:Int)-y==0)=true:=by rw[hz];rfl);go_wp2_with (go_at_fn 260;refine mv (Hj C) λu _=>?_);go_ret2;exact bF
theorem E8(l:dk w B r a v)(hv:b8 v)(hi:v.bs[i]?=some b):() 207 #[.pointer r,b.h] w (aL w (.tuple #[i,.bool true])):=by
 have M:=@az;have C:Bx w r 197 (kl a v):=⟨l.hd⟩;have I:=l.mp.look hv.AV (hv.RN b (aK hi)) w rfl;have E:=U l.bs;have J:=U hv.lay;have F:Z (v.cs.length<=16777216):=ay;have K:=U hi;have o1:Old r w:=⟨C.ak.lt⟩;have e:v.bs.length<=16777216:=by
  have N:=hv.AX;have O:=F.o;have P:v.bs.length<=(v.bs.map (·.wd)).sum:=by
   have:∀L:List gb,(∀b∈L,1<=b.wd)->L.length<=(L.map (·.wd)).sum:=by
    intro L;induction L with
    |nil=>intro _;simp
    |cons x t Q=>grind
   exact ay
  have R:=hv.lv;omega
 have S:=U e;have T:Z (v.bs.length=v.bs.length)\/True:=.inr bq;obtain⟨n,G⟩:=lh v.bs.length;dsimp only[kl]at C;rw[G]at C E e;have D:=U G;go_in;go_wp2_with (go_at_call 259;refine mv (ad9 E J F D e K rfl) λV _=>?_);go_ret2;exact bF
end
end
variable{X p:World}
section
variable{w:World}{B k n:Nat}{a:ta}{v:da}{b:gb}{x:Value}
def mJ{Q:World->Prop}{cs:dw}(h:∀u,aj u X->Bx u X.1.size T cs->Q u):Q (X.alloc (.cells cs T)):=h _ (aC) am
def Jy(e:dk w B r a v)(hv:b8 v)(hi:v.bs[i]?=some b):() 251 #[.pointer r,b.h] w (aL w (.tuple #[.agg #[b.h,b.fr,b.wd],an])):=by
 obtain⟨J,K⟩:=hY;have L:=@cJ;have M:=@aP;have C:Bx w r 197 (kl a v):=⟨e.hd⟩;obtain⟨g,D,c0,c1,c2⟩:=e.ak hi;have N:Old g w:=⟨cY c1.eq⟩;have l:=(bj.1 hi).1;obtain⟨m,hm⟩:=lh v.bs.length;have E:=U e;have F:=U hv;have G:=U hi;obtain⟨Ac,cc,Ab,cb,q⟩:=a;dsimp only at D;subst D;dsimp only[kl]at C;rw[hm]at C l;have i1:(i:Int)<(m:Int):=by omega
 clear e hv hi hm;go_in;go_upto_region 1 with fail;refine mJ (λO _ k0=>?_);go_upto_region 4 with(go_at_call 207;refine mv (E8 E.o.at F.o G.o) λI _=>?_);go_wp2_with fail;refine aZ (v:=.tuple #[.agg #[b.h,b.fr,b.wd],an]) ?_ rfl ⟨rfl,⟨(((aO w I).setCell (p:=⟨w.1.size,0,none⟩) (al _) _).setCell (p:=⟨w.1.size,1,none⟩) (al _) _).setCell (p:=⟨w.1.size,2,none⟩) (al _) _⟩⟩;rw[ct rfl];go_simp
theorem dk.row(E:dk w B r a v)(hv:b8 v)(hi:v.bs[i]?=some b):∃g,a.Ac=some ⟨g,0,none⟩/\Sl w (some ⟨g,b.fr,none⟩) b.wd (cont v.cs b)/\v.cs.length<=a.cc/\a.cc<=maxLen/\b.fr+b.wd<=v.cs.length/\1<=b.wd/\v.cs.length<=16777216/\
  ∀W:World,(Instr.slice 26 (.slice (some ⟨g,0,none⟩) v.cs.length a.cc) (some (.int .i64 (b.fr:Int))) (some (.int .i64 ((b.fr:Int)+(b.wd:Int)))) none).run prog W=.ok (.slice (some ⟨g,b.fr,none⟩) b.wd (a.cc-b.fr)) W:=by
 have hb:=hv.lay.bd b (aK hi);have J:=E.cs.hD;rcases E.cs.form with⟨_,Q,_⟩|⟨g,K,I,R,hg,L,hm,S,ht⟩;grind;have M:=hv.cl;have N:=hv.cap;refine⟨g,I,⟨λj z D=>?_,(ju hb.2).symm⟩,J,hm,hb.2,hb.1,Y,λW=>?_⟩
 .rw[rf]at D;split at D;obtain⟨T,o1,e,O,F⟩:=E.cs.rd _ _ D;rw[I]at e;injection e with e;injection e with l C;subst l C;grind;cases D
 have G:∀W,(sizeOf (prog.elem 26)).run prog W=.ok 1 W:=λW=>by obtain⟨V,l,C⟩:=bJ.1 (show(prog.info? (prog.elem 26)).map (·.size)=some 1 from by kernel_rfl);simp[sizeOf,typeInfo,l,C]
 rw[kW W 26 (some ⟨g,0,none⟩) v.cs.length a.cc ap .i64 .i64 (b.fr:Int) ((b.fr:Int)+(b.wd:Int)) Y Y Y,G];have l:((b.fr:Int)+(b.wd:Int)).toNat=b.fr+b.wd:=Y;have C:¬a.cc=b.fr:=Y;have P:b.fr+b.wd-b.fr=b.wd:=Y;simp[Result.andThen,sliced,l,C,P,cf]
def aa1(C:dk w B r a v)(hv:b8 v)(hi:v.bs[i]?=some b)(G:b.wd<=65536):() 209 #[.pointer r,b.h] w (λe w'=>∃A c,e=.returned (.tuple #[.slice A b.wd c,an])/\aD w' w.1.size 65 A c (cont v.cs b)/\aj w' w):=by
 have V:=@az;have X:=@aP;have D:Bx w r 197 (kl a v):=⟨C.hd⟩;obtain⟨g,E,sC,l1,I,J,l4,L,l⟩:=C.row hv hi;have M:=U C;have N:=U hv;have O:=U hi;obtain⟨Ac,cc,Ab,cb,q⟩:=a;dsimp only at E l1 I l;subst E;dsimp only[kl]at D;obtain⟨m,hm⟩:=lh v.cs.length;rw[hm]at D l l1 J L;have hw:IntKind.i64.wrap ((b.fr:Int)+(b.wd:Int))=(b.fr:Int)+(b.wd:Int):=by rw[a7];omega
 clear C hv hi hm;go_in;go_upto_region 4 with(go_at_call 251;refine mv (Jy M.o N.o O.o) λu1 _=>?_);refine mJ (λF _ k0=>?_);have P:Sl F (some ⟨g,b.fr,none⟩) b.wd (cont v.cs b):=am;refine ax F ap (λQ _=>?_);refine qL [0,1,2,3,4,5,6,7,8,9,10,11] ?_;refine aJ 12 λK hK=>?_;go_simp;refine(MX Y).mono ?_;rintro e Q ⟨R,S,rfl,T,_⟩;dsimp only;refine aE hK ?_;refine qL [13,14] ?_;refine a8 ?_;go_wp2_with fail;go_ret2;exact⟨R,S,rfl,T.more ai,aC⟩
theorem Qt{ad:Addr}{t:Nat}(h:aD w B 65 (some ⟨g,0,none⟩) c zs)(K:∀(j:Nat) (z:Int),xs[j]?=some z->w.cell? (ad.add j)=some (.int .i64 z))(ht:t+xs.length<=zs.length):
  ∃X,(∀l dc sc,(Builtin.copy_ #[26,26] l #[.slice (some ⟨g,t,none⟩) xs dc,.slice (some ad) xs sc]).run prog w=.ok (goInt (xs.length:Int)) (w.setRow g X))/\aD (w.setRow g X) B 65 (some ⟨g,0,none⟩) c (jW zs t xs):=by
 rcases h.form with⟨C,_⟩|⟨L,cur,e,D,hg,F,hm,G,hv⟩;cases C;injection e with e;injection e with I M;subst I;refine⟨(cur.toList.take t++xs.map (Value.int .i64)++cur.toList.drop (t+(xs.map (Value.int .i64)).length)).toArray,λl dc sc=>?_,?_⟩;have:=fG (P:=prog) (w:=w) (E:=65) (k:=1) (g:=g) (o:=t) (cs:=xs.map (Value.int .i64)) (cur:=cur) 26 26 l xs.length dc ad xs.length sc ap ap hg aI ay ch (sL xs);grind;have J:=lm (cs:=zs) (p:=t) (xs:=xs) ht;have hs:cur.toList.length=c:=by simpa using G
 have:=aT.mk' (w:=w.setRow g (cur.toList.take t++xs.map (Value.int .i64)++cur.toList.drop (t+(xs.map (Value.int .i64)).length)).toArray) (E:=65) (k:=1) (n:=zs.length) (c:=c) (vs:=(jW zs t xs).map (Value.int .i64)) D (bT hg _) F hm ch (by
  show List.take (zs.length*1) (cur.toList.take t++xs.map (Value.int .i64)++cur.toList.drop (t+(xs.map (Value.int .i64)).length))=_
  rw[fm,bn,jW,c9,c9,fT,kX,<-hv];rw[e5,d5 Y];rw[sH,bV ch];congr 1;rw[uQ]
  grind)
 unfold aD;rwa[J]
theorem dk.cells{X:dw}(l:dk w B r a v)(E:a.Ac=some ⟨g,0,none⟩)(J:aD (w.setRow g X) B 65 (some ⟨g,0,none⟩) a.cc zs)(F:zs.length=v.cs.length):dk (w.setRow g X) B r a {v with cs:=zs}:=by
 obtain⟨p1,D,K⟩:=l.apart;have C:AF a.Ac g:=⟨_,E,rfl⟩;refine⟨?_,?_,?_,?_,l.hr,l.hq⟩;have:kl a {v with cs:=zs}=kl a v:=by dsimp only[kl];rw[F]
 rw[this];exact(bl (dp (D g C).1) X).trans l.hd;grind;exact l.bs.same λG e=>bl (λI=>(D g C).2.2 (by rw[<-I];exact⟨G,e,rfl⟩)) X;exact l.mp.same (bl ay X)
theorem mK{F:Nat->Prop}(hg:F g)(X):Kf F F w (w.setRow g X):=
 ⟨⟨rfl,rfl,rfl,by rw[size_setRow];exact al _,ay⟩,by rw[size_setRow];exact al _,λb _ e=>bl ay X,λ_ h=>.inl h⟩
def zC4(h:Γ:=by exact⟨_,rfl,rfl⟩):=h
def aa2[aM p w](M:dk w p.1.size r a v)(hv:b8 v)(hi:v.bs[i]?=some b)[N:Sl w A n xs](hn:n=b.wd):() 204 #[.pointer r,.int .i64 b.h,(A,n,c)] w (λe w'=>e=.returned an/\dk w' p.1.size r a (v.put b xs)/\Kf (a.F r) (a.F r) w w'):=by
 have CB:=@az;have CC:=@cJ;have FB:=@aP;obtain⟨g,O,-,l1,l2,l3,l4,l5,kE⟩:=M.row hv hi;have I:xs.length=b.wd:=by rw[<-hn,N.len]
 obtain⟨b1,o1,z1,rfl,mM,-,-⟩:=N.get (k:=0) Y;have c1:Cl w r 1 (.slice g v.cs.length a.cc):=⟨by rw[M.hd.cell 1,<-O];rfl⟩;have P:=U M;have HV:=U hv;have HI:=U hi;have Q:=U O;have G:=U I;have J:=U l3;have SX:=U N;subst hn;have hw:IntKind.i64.wrap ((b.fr:Int)+(b.wd:Int))=(b.fr:Int)+(b.wd:Int):=by rw[a7];omega
 clear M hv hi O I;go_in;go_upto_region 4 with(go_at_call 251;refine mv (Jy P.o HV.o HI.o) λR _=>?_);refine mJ (λu0 Bd k0=>?_);go_upto_region 6 with fail;refine aU p (λw9=>Cl w9 r 1 (.slice g v.cs.length a.cc)/\Bx w9 R.1.size 311 #[.int .i64 b.h,.int .i64 (b.fr:Int),.int .i64 (b.wd:Int)]) ap ⟨am,am⟩ (λC _=>?_);refine bp 0 ?_;refine bp 1 ?_;refine bp 2 ?_;refine bp 3 ?_;refine bp 4 ?_;refine bp 5 ?_;refine bp 6 ?_;refine bp 7 ?_;refine bp 8 ?_;refine bp 9 ?_;refine bp 10 ?_;refine bp 11 ?_;refine bp 12 ?_;refine aJ 13 λK hK=>?_;have D:=P.o.at (w':=C);have l:=D.cs;rw[Q.o]at l;obtain⟨X,L,S⟩:=Qt (ad:=⟨b1,o1,none⟩) (t:=b.fr) (xs:=xs) l (λj z hj=>by rw[cf];exact(SX.o.rd.below (aO w C)).all hj) (by rw[G.o];exact J.o);rw[G.o]at L;have E:AF a.Ac g:=by rw[Q.o];exact zC4
 have T:g≠r:=(D.apart.2.1 g E).1;have Hk:p.1.size<=g:=(D.lt g (.inr (.inr (.inl E)))).1;have V:g≠R.1.size:=by have:=(P.o.lt g (.inr (.inr (.inl E)))).2;have:=ai (w:=w) (w':=R);omega
 have RX:=U (D.cells Q.o S (lm (by rw[G.o];exact J.o)));have y3:Z (Kf (a.F r) (a.F r) w (C.setRow g X)):=U ((Kf.later _ (w:=w)).trans (mK (.inr (.inr (.inl E))) X));refine dZ rfl _ _ 26 26 rfl _ _ rfl rfl (L _ _ _)<|aE hK ?_ ⟨⟨⟨(aO p C).os,(aO p C).tape,(aO p C).output,by rw[size_setRow];exact(aO p C).size,λb hb=>by rw[bl Y];exact(aO p C).block b hb⟩⟩,⟨(d4 (bl (dp T) X)).trans (Cl.eq (w:=C))⟩,⟨(bl (dp V) X).trans (Bx.ak (w:=C))⟩⟩;refine a8 ?_;go_wp2_with fail;go_ret;exact⟨rfl,RX.o,y3.o⟩
end
variable{w1:World}{c':Nat}{bs':List gb}
section
variable{w:World}{B k n:Nat}{a:ta}{v:da}{b:gb}{x:Value}{t:Value}
theorem dk.abY(C:dk w B r a v)(E:dj a.Ab A' w w')(hr:aT w' B 311 3 A' c' bs'.length (h7 bs')):dk (w'.setCell (r,2) (.slice A' bs' c')) B r {a with Ab:=A',cb:=c'} {v with bs:=bs'}/\Kf (a.F r) (({a with Ab:=A',cb:=c'}:ta).F r) w (w'.setCell (r,2) (.slice A' bs' c')):=by
 have⟨p1,p2,p3⟩:=C.apart;have L:aA w' r 197 (kl a v):=E.ak C.hd λl e D=>(p3 r ⟨l,e,D⟩).1 rfl;have G:aD w' B 65 a.Ac a.cc v.cs:=C.cs.same λl e=>E.off _ (C.cs.lt l e) λI M D=>(p2 l.block ⟨l,e,rfl⟩).2.2 ⟨I,M,D⟩;have J:gC w' a.q v.mp:=C.mp.same (E.off _ C.mp.lt λl e D=>(p3 a.q ⟨l,e,D⟩).2 rfl);have K:∀l,A'=some l->l.block≠r:=λl e D=>by have⟨_,_,cur,h9⟩:=hr.af ⟨l,e,D⟩;unfold aA at L;grind
 refine⟨⟨?_,?_,?_,?_,C.hr,C.hq⟩,?_⟩;exact L.av 2 _;exact G.same λl e=>bb w' ⟨r,2,none⟩ _ _ (p2 l.block ⟨l,e,rfl⟩).1;exact hr.same λl e=>bb w' ⟨r,2,none⟩ _ _ (K l e);exact J.same (bb w' ⟨r,2,none⟩ _ _ (dp p1));refine Kf.av ((Kf.jE E).more (λb hb=>.inr (.inr (.inr hb))) (λb hb=>?_)) (.inl rfl) _;rcases hb with hb|hb|hb|hb;exact .inr (.inl (.inl hb));exact .inr (.inl (.inr (.inl hb)));exact .inr (.inl (.inr (.inr (.inl hb))));grind
def dk.V0(l:dk w B r a v)(hm:gC w1 a.q mp)(D:∀b,b≠a.q->w1.heap[b]?=w.heap[b]?):dk w1 B r a {v with mp:=mp}:=by
 have⟨p1,p2,p3⟩:=l.apart;exact⟨(D r p1).trans l.hd,l.cs.same λC e=>D _ (p2 C.block ⟨C,e,rfl⟩).2.1,l.bs.same λC e=>D _ (p3 C.block ⟨C,e,rfl⟩).2,hm,l.hr,l.hq⟩
theorem Hl{F:Nat->Prop}(hq:F q)(e:∀b,b≠q->w1.heap[b]?=w.heap[b]?)(hs:w1.1.size=w.1.size)(hb:Below 0 w w1):Kf F F w w1:=
 ⟨hb,dT hs.symm,ay,λ_ h=>.inl h⟩
theorem Cl.aV{b k:Nat}{x:Value}(h:Cl w g i t)(e:g≠b\/i≠k):Cl (w.setCell (b,k) x) g i t:=
 ⟨(World.cell?_setCell_other _ _ _ _ ch).trans h.eq⟩
def b8.ac0(hv:b8 v)(hi:v.bs[i]?=some b):b.wd<=v.lv:=by
 rw[hv.lv,jv hi];simp;omega
def zC8(h:Γ:=by rfl):=h
def zCa(h:Γ:=by injection e with e;subst e;exact hx):=h
theorem V1[aM p w](X:dk w p.1.size r a v)(hv:b8 v)(hi:v.bs[i]?=some b):() 153 #[.pointer r,b.h] w (λe w'=>e=.returned an/\dk w' p.1.size r a (v.free i b)/\Kf (a.F r) (a.F r) w w'):=by
 have CB:=@az;have CC:=@cJ;have FB:=@aP;obtain⟨g,hA,-,-,c2⟩:=X.ak hi;have IH:=(bj.1 hi).1;have Jz:=hv.ac0 hi;have wV:=hv.small hi;have pZ:=hv.AX;have vj:=hv.cl;have rj:=hv.cap;have l:Cl w r 2 (.slice g v.bs.length a.cb):=⟨by rw[X.hd.cell 2,<-hA];rfl⟩;have ch6:Cl w r 6 (v.lv:Int):=⟨X.hd.cell 6⟩;have HV:=U hv;have HI:=U hi;have HM:=U X;have HA:=U hA;have o1:Old r w:=⟨X.hd.lt⟩;have o2:Old g w:=⟨cY c2.eq⟩;have R:g≠r:=(X.apart.2.2 g (by rw[hA];exact⟨_,rfl,rfl⟩)).1;have V4:(v.lv:Int)-(b.wd:Int)=((v.lv-b.wd:Nat):Int):=Y;have hw:IntKind.i64.wrap ((v.lv-b.wd:Nat):Int)=((v.lv-b.wd:Nat):Int):=by rw[a7];omega
 obtain⟨m,hm⟩:=lh v.bs.length;have G:=U hm;rw[hm]at IH l;have i1:(i:Int)<(m:Int):=by omega
 have Qu:v.bs.length<=16777216:=by
  have h3:v.bs.length<=(v.bs.map (·.wd)).sum:=by
   have:∀L:List gb,(∀b∈L,1<=b.wd)->L.length<=(L.map (·.wd)).sum:=by
    intro L;induction L with
    |nil=>intro _;simp
    |cons x t ih=>intro hL;have h4:=hL x dD;have h5:=ih λy hy=>hL y (iD _ hy);grind
   exact ay
  have h4:=hv.lv;omega
 have M4:Z (m<=16777216):=ay;go_in;go_upto_region 4 with(go_at_call 207;refine mv (E8 HM.o.at HV HI) λu1 _=>?_);refine aU p (λw9=>Cl w9 r 2 (.slice g m a.cb)/\Cl w9 g (i*3+2) (b.wd:Int)) ap ⟨am,am⟩ (λO _=>?_);refine bp 0 ?_;refine bp 1 ?_;refine bp 2 ?_;refine bp 4 ?_;refine bp 5 ?_;refine bp 6 ?_;refine bp 7 ?_;refine bp 8 ?_;refine bp 9 ?_;refine bp 10 ?_;refine bp 11 ?_;refine aJ 3 λK hK=>?_;go_simp;refine aE hK ?_ ⟨aG p O,⟨am,am⟩⟩;refine bp 12 ?_;refine bp 13 ?_;refine bp 14 ?_;refine aJ 15 λK hK=>?_;have aeo:O.cell? (r,6)=some (.int .i64 (v.lv:Int)):=(HM.o.at (w':=O)).hd.cell 6;have V5:O.frozen? ⟨r,6,none⟩=false:=(HM.o.at (w':=O)).hd.frozen 6;go_simp;refine aE hK ?_ ⟨⟨(aO p O).setCell (p:=⟨r,6,none⟩) HM.o.hr _⟩,⟨Cl.aV am (.inr ao),Cl.aV am (.inl R)⟩⟩;clear hK K aeo V5;refine a8 ?_;skip;obtain⟨v1,I⟩:=lg ({v with lv:=v.lv-b.wd}:da);obtain⟨W1,J⟩:=lg (O.setCell (r,6) ((v.lv-b.wd:Nat):Int));have D:dk W1 p.1.size r a v1:=by rw[J,I];exact(HM.o.at (w':=O)).vw (v':={v with lv:=v.lv-b.wd}) (i:=6) zC8 rfl rfl rfl
 have MY:Kf (a.F r) (a.F r) w W1:=by rw[J];exact(Kf.later _ (w:=w)).av (.inl rfl) _
 have S:=U D;have rk:=U MY;have e1:v1.bs=v.bs:=by rw[I]
 have kh1:Bx W1 r 197 (kl a v1):=⟨D.hd⟩;have HB1:Z (aT W1 p.1.size 311 3 (some ⟨g,0,none⟩) a.cb m (h7 v.bs)):=U (by have:=D.bs;rwa[HA.o,e1,G.o]at this);have M:=U I;have agd:Cl W1 r 2 (.slice g m a.cb):=⟨by rw[D.hd.cell 2,<-HA.o,<-G.o,<-e1];rfl⟩;have HN9:Z (m<=100000)\/True:=.inr bq;have wi:IntKind.i64.wrap ((i:Int)+1)=(i:Int)+1:=by have:=M4.o;rw[a7];omega
 rw[<-J];clear J D MY I e1 HN9 l ch6 c2 FB CB kh1;go_upto_region 6 with(go_at_call 208;refine(acW (HB1.o) (Ju _) rfl rfl IH (by have:=M4.o;omega)).mono ?_;rintro e u2 ⟨rfl,r2,l⟩;rw[<-E6,<-E7,<-jw]at r2;obtain⟨fr2,-⟩:(∀i,u2.frozen? ⟨r,i,none⟩=false)/\True:=⟨λi=>((l.ak S.o.hd λad e hx=>R zCa).frozen i),bq⟩;obtain⟨cr2,-⟩:Cl u2 r 2 (.slice g m a.cb)/\True:=⟨⟨(d4 (l.off r S.o.hd.lt λad e hx=>R zCa)).trans (Cl.eq (w:=W1))⟩,bq⟩);obtain⟨bs2,C⟩:=lg (v.bs.take i++v.bs.drop (i+1));have T:bs2.length=m-1:=by rw[C,<-G.o];have:=G.o;simp;omega
 obtain⟨W2,V⟩:=lg (u2.setCell (r,2) (.slice g (m-1) a.cb));have E:dk W2 p.1.size r a {v1 with bs:=bs2}/\Kf (a.F r) (a.F r) W1 W2:=by rw[<-C,<-T]at r2;have h9:=S.o.abY (A':=some ⟨g,0,none⟩) (c':=a.cb) (by rwa[HA.o]) r2;(have e9:({a with Ab:=some ⟨g,0,none⟩,cb:=a.cb}:ta)=a:=by have⟨Ac,cc,Ab,cb,q⟩:=a;have h8:=HA.o;dsimp only at h8;rw[h8]);rw[e9,T,<-V]at h9;exact h9
 have P:b.h∈v.mp.map (·.1):=cw.2 ⟨_,HV.o.RN b (aK HI),rfl⟩;have Q:gC W2 a.q v.mp:=by have:=E.1.mp;rw[M.o]at this;exact this
 have⟨W3,age,D8,hk3,wZ,s9⟩:=Q.del HV.o.AV P;have N:=E.1.V0 D8 hk3;have vy:Kf (a.F r) (a.F r) w W3:=(rk.o.trans E.2).trans (Hl (.inr (.inl rfl)) hk3 wZ s9);have cq2:Cl W2 r 3 (.map (some a.q)):=⟨E.1.hd.cell 3⟩;have cp3:Cl W3 r 4 (v.pk:Int):=⟨by rw[N.hd.cell 4,M.o];rfl⟩;have fr3:∀i,W3.frozen? ⟨r,i,none⟩=false:=λi=>N.hd.frozen i;have HM3:=U N;have t5:=U vy;have abZ:min (v.pk:Int) (i:Int)=((min v.pk i:Nat):Int):=by omega
 rw[<-V];have Hm:=U C;clear V E P Q D8 hk3 wZ s9 N vy T r2 l C fr2 cr2;go_wp2_with fail;go_ret;refine⟨rfl,?_,?_⟩;have h9:=HM3.o.vw (v':=v.free i b) (i:=4) (x:=.int .i64 ((min v.pk i:Nat):Int)) (by rw[M.o,Hm.o];rfl) (by rw[M.o];rfl) (by rw[Hm.o];rfl) zC8;exact h9;exact t5.o.av (.inl rfl) _
end
section
variable{w:World}{B k n:Nat}{a:ta}{v:da}{b:gb}{x:Value}
def zC2(h:Γ:=by
 have:∀L:List gb,(∀b∈L,1<=b.wd)->L.length<=(L.map (·.wd)).sum:=by
  intro L;induction L with
  |nil=>intro _;simp
  |cons x t l=>grind
 exact ay):=h
theorem b8.lens(hv:b8 v):v.bs.length<=16777216:=by
 have e:v.bs.length<=(v.bs.map (·.wd)).sum:=zC2;have C:=hv.AX;grind
theorem b8.Be(hv:b8 v)(hi:i<=v.bs.length):dY v.bs i<=16777216:=by
 have e:=hv.lay.aaQ hi;grind
def Hn(hv:b8 v){k m:Nat}(e:k<=v.bs.length):b8 (v.hB k m):=(ny.hB hv e).ok
def zC9(h:Γ:=by show i<=v.bs.length;rw[C.o];exact hi):=h
def zC0(h:Γ:=by
 have l:=U (G.o.at (w':=D));have X:Z (Kf (a.F r) (a.F r) w D):=U (S.o.trans (Kf.later _ (w:=wr)));have M0:Bx D r 197 #[v.cap,.slice a.Ac v.cs.length a.cc,.slice a.Ab n a.cb,.map (some a.q),k,v.nx,v.lv,v.hi,v.pe,v.mv]:=⟨by have P:=l.o.hd;dsimp only[kl,da.hB]at P;rw[C.o]at P;exact P⟩;have E:Z (b8 (v.hB k v.mv)):=U (Hn O.o (by rw[C.o];exact hk));have or5:Old r D:=⟨M0.ak.lt⟩;clear G S kb M;go_wp2_with fail;go_loopw [6] (λs wy=>∃i:Nat,i<=n/\s=.int .i64 (i:Int)/\aj wy D) (λs _=>n-(intOf s).toNat);case atStart=>exact⟨k,hk,rfl,aC⟩
 case round=>
  obtain⟨i,hi,rfl,hp6⟩:=hrel;by_cases tU:i<n
  .obtain⟨b,hb⟩:∃b,v.bs[i]?=some b:=⟨_,bk (by rwa[C.o])⟩;obtain⟨g,T,-,c1,-⟩:=l.o.ak (v:=v.hB k v.mv) hb;have wV:=O.o.small hb;have hel:=O.o.lay.G9 hb;obtain⟨e,J⟩:=lh (dY v.bs i);rw[J]at hel;have I:Z (dY (v.hB k v.mv).bs i=e):=U J;have Q:Z (i<=(v.hB k v.mv).bs.length):=U zC9;have og5:Old g D:=⟨cY c1.eq⟩;have HB:=U hb;have HAA:=U T;rw[T]at M0;(have RY:IntKind.i64.wrap ((b.fr:Int)-(e:Int))=(b.fr:Int)-(e:Int):=by rw[a7];omega);(have hwi:IntKind.i64.wrap ((i:Int)-1)=(i:Int)-1:=by rw[a7];omega);(have i1:(i:Int)<(n:Int):=by omega);clear T hb J;by_cases V:e+wd<=b.fr
   .have d1:decide ((wd:Int)<=(b.fr:Int)-(e:Int))=true:=by simp;omega
    have HC:=U V;clear V;go_upto_region 6 with fail;refine ax wr ap (λL _=>?_);refine qL [0,1,2,3,4,5,6,7,8,9,10,13] ?_;refine aJ 11 λK hK=>?_;go_simp;refine(mc (w:=L) (U l.o.at) E Q rfl I).mono ?_;rintro e L ⟨rfl,_⟩;dsimp only;refine aE hK ?_;refine qL [12,14] ?_;refine a8 ?_;go_wp2_with fail;go_ret2;refine⟨k,i,true,rfl,l.o.at,by rw[C.o];exact hk,X.o.trans (Kf.later _ (w:=D)),U λ_=>⟨by rw[C.o];exact hi,λb' N=>?_,?_⟩⟩;obtain rfl:b=b':=cU (HB.o.symm.trans N);exact aQ (dT (di (· +wd) I.o)) HC.o;have h7:dY v.bs i=e:=I.o;have h8:=(O.o.lay.bd b (aK HB.o)).2;have P:=O.o.cl;have h6:=HC.o;omega
   have d1:decide ((wd:Int)<=(b.fr:Int)-(e:Int))=false:=by simp;omega
   clear V;go_upto_region 6 with fail;refine ax wr ap (λL _=>?_);refine qL [0,1,2,3,4,5,6,7,8,9,10,13] ?_;refine aJ 11 λK hK=>?_;go_simp;refine(mc (w:=L) (U l.o.at) E Q rfl I).mono ?_;rintro e L ⟨rfl,_⟩;dsimp only;refine aE hK ?_;refine qL [12,14] ?_;refine a8 ?_;go_wp2_with fail;go_roundw;(case rel=>exact⟨i+1,Y,by go_num,aC⟩);case measure=>exact ou
  obtain rfl:i=n:=Y;obtain⟨e,J⟩:=lh (dY v.bs i);have hes:=O.o.Be (i:=i) (by rw[C.o];exact al _);rw[J]at hes;have I:Z (dY (v.hB k v.mv).bs i=e):=U J;have Q:Z (i<=(v.hB k v.mv).bs.length):=U zC9;(have RY:IntKind.i64.wrap ((v.cap:Int)-(e:Int))=(v.cap:Int)-(e:Int):=by rw[a7];omega);(have hwn:IntKind.i64.wrap ((i:Int)-1)=(i:Int)-1:=by rw[a7];omega);obtain⟨ok,nA⟩:=lh (decide ((wd:Int)<=(v.cap:Int)-(e:Int)));have kH:=U nA;have qS:=U R;clear J;go_upto_region 8 with fail;refine ax wr ap (λL _=>?_);refine qL [0,1,2,3,4,5,6,7,8,9,10,11,12,13,14,15,18] ?_;refine aJ 16 λK hK=>?_;go_simp;refine(mc (w:=L) (U l.o.at) E Q rfl I).mono ?_;rintro e L ⟨rfl,_⟩;dsimp only;refine aE hK ?_;refine qL [17,19,20,21] ?_;refine a8 ?_;go_wp2_with fail;go_ret2;refine⟨k,i,ok,rfl,l.o.at,by rw[C.o];exact hk,X.o.trans (Kf.later _ (w:=D)),U λh=>⟨by rw[C.o];exact al _,λb' N=>?_,?_⟩⟩;have:=(bj.1 N).1;rw[C.o]at this;omega;have h7:dY v.bs i=e:=I.o;have h8:=kH.o;rw[h]at h8;have:=pH h8;omega):=h
theorem aa3[pw:aM p w](hM:dk w p.1.size r a v)(hv:b8 v):() 244 #[.pointer r,wd] w (λe w'=>∃(pk i:Nat) (ok:Bool),e=.returned (.tuple #[i,.bool ok])/\dk w' p.1.size r a (v.hB pk v.mv)/\pk<=v.bs.length/\Kf (a.F r) (a.F r) w w'/\
   Z (ok=true->i<=v.bs.length/\(∀b,v.bs[i]?=some b->dY v.bs i+wd<=b.fr)/\dY v.bs i+wd<=v.cap)):=by
 have CB:=@az;have CC:=@cJ;have FB:=@aP;have O:=U hv;have MZ:=U hM;have R:=hv.lens;have E9:=hv.cap;obtain⟨n,hn⟩:=lh v.bs.length;have C:=U hn;rw[hn]at R;have t6:Z (dk w p.1.size r a (v.hB v.pk v.mv)):=U hM;have HP:Z (v.pk<=n):=ay;clear hM hv hn;go_in;go_wp2_with fail;go_loopg [] n (λkx wr=>∃k:Nat,k<=n/\n-k<=kx/\Z (dk wr p.1.size r a (v.hB k v.mv))/\Z (Kf (a.F r) (a.F r) w wr)/\aj wr p);case atStart=>exact⟨v.pk,HP.o,Y,t6,U (Kf.refl _ _),⟨pw.st⟩⟩
 case round=>
  obtain⟨k,hk,hkx,G,S,V6⟩:=hrel;have M:Bx wr r 197 #[v.cap,.slice a.Ac v.cs.length a.cc,.slice a.Ab n a.cb,.map (some a.q),k,v.nx,v.lv,v.hi,v.pe,v.mv]:=⟨by have P:=G.o.hd;dsimp only[kl,da.hB]at P;rw[C.o]at P;exact P⟩;have kb:=M;by_cases bD:k<n
  .obtain⟨b,hb⟩:∃b,v.bs[k]?=some b:=⟨_,bk (by rwa[C.o])⟩;obtain⟨g,T,-,c1,-⟩:=G.o.ak (v:=v.hB k v.mv) hb;have wV:=O.o.small hb;obtain⟨e,J⟩:=lh (dY v.bs k);have I:Z (dY (v.hB k v.mv).bs k=e):=U J;have Q:Z (k<=(v.hB k v.mv).bs.length):=U (by show k<=v.bs.length;rw[C.o];exact hk);have E:Z (b8 (v.hB k v.mv)):=U (Hn O.o (by rw[C.o];exact hk));have og:Old g wr:=⟨cY c1.eq⟩;have or:Old r wr:=⟨M.ak.lt⟩;have HAA:=U T;(have hwk:IntKind.i64.wrap ((k:Int)-1)=(k:Int)-1:=by rw[a7];omega);have w6:=M;rw[T]at w6;(have d0:decide ((k:Int)<(n:Int))=true:=by simpa using bD);(have i1:(k:Int)<(n:Int):=by omega);clear T hb J kb M;have kb:=w6;by_cases V:b.fr=e
   .have d1:((b.fr:Int)==(e:Int))=true:=by simp[V]
    clear V;go_upto_region 1 with fail;refine ax wr ap (λD _=>?_);refine qL [0,1,2,3,4,5,6,7,8,9,10,11,12,13,14,15,16,17,18,19,20,21,22,23,24,25,26,27] ?_;refine aJ 28 λK hK=>?_;go_simp;refine(mc (w:=D) (U G.o.at) E Q rfl I).mono ?_;rintro e D ⟨rfl,_⟩;dsimp only;refine aE hK ?_;refine qL [29,30] ?_;refine a8 ?_;go_wp2_with fail;go_roundg (n-(k+1));(case measure=>omega);case rel=>exact⟨k+1,Y,Y,U ((G.o.at (w':=D)).vw (v':=v.hB (k+1) v.mv) (i:=4) zC8 rfl rfl rfl),U ((S.o.trans (Kf.later _ (w:=wr))).av (.inl rfl) _),⟨(aO p D).setCell (p:=⟨r,4,none⟩) MZ.o.hr _⟩⟩
   have d1:((b.fr:Int)==(e:Int))=false:=by simp;omega
   have M:=kb;clear V;go_upto_region 1 with fail;refine ax wr ap (λD _=>?_);refine qL [0,1,2,3,4,5,6,7,8,9,10,11,12,13,14,15,16,17,18,19,20,21,22,23,24,25,26,27] ?_;refine aJ 28 λK hK=>?_;go_simp;refine(mc (w:=D) (U G.o.at) E Q rfl I).mono ?_;rintro e D ⟨rfl,_⟩;dsimp only;refine aE hK ?_;refine qL [29,30] ?_;refine a8 ?_;skip;clear d0 d1 c1 wV I Q E w6 i1 og or HAA hwk;exact zC0
  (have d0:decide ((k:Int)<(n:Int))=false:=by simp;omega);go_upto_region 1 with fail;refine ax wr ap (λD _=>?_);refine qL [0,1,2,3,4,5,6,7,8,9,10,511,512,513,514,515,516,517,518,519,520,521,522,523,524,525,526,527,528,529,30] ?_;refine a8 ?_;skip;clear d0;exact zC0
end
section
variable{w:World}{B k n t:Nat}{a:ta}{v:da}{b:gb}{x:Value}
theorem dk.aec(l:dk w B r a v)(D:a.Ab=some ⟨g,0,none⟩)(hi:v.bs[i]?=some b):dk (w.setCell (g,i*3+1) (t:Int)) B r a {v with bs:=v.bs.set i ⟨b.h,t,b.wd⟩}:=by
 obtain⟨p1,I,E⟩:=l.apart;have C:AF a.Ab g:=by rw[D];exact zC4
 have hb:=l.bs;rw[D]at hb;have F:(v.bs.set i ⟨b.h,t,b.wd⟩).length=v.bs.length:=ei ..;refine⟨?_,?_,?_,?_,l.hr,l.hq⟩;have:kl a {v with bs:=v.bs.set i ⟨b.h,t,b.wd⟩}=kl a v:=by dsimp only[kl];rw[F]
 rw[this];exact l.hd.aV (dp (E g C).1) _;exact l.cs.same λG e=>bb w ⟨g,_,none⟩ _ _ λJ=>(I G.block ⟨G,e,rfl⟩).2.2 ay;show aT _ _ _ _ _ _ (v.bs.set i ⟨b.h,t,b.wd⟩).length (h7 (v.bs.set i ⟨b.h,t,b.wd⟩));rw[F,D,VV hi];exact hb.A9 _;exact l.mp.same (bb w ⟨g,_,none⟩ _ _ (dp (E g C).2))
def RZ{bs:List gb}(hi:bs[i]?=some b)(t):(((bs.set i ⟨b.h,t,b.wd⟩).take (i+1)).map (·.wd)).sum=((bs.take i).map (·.wd)).sum+b.wd:=by
 have l:=(bj.1 hi).1;have e:(bs.set i ⟨b.h,t,b.wd⟩).take (i+1)=bs.take i++[⟨b.h,t,b.wd⟩]:=by rw[i5,jK l,sG (al i)];rfl
 rw[e];simp
def JA[pw:aM p w](hM:dk w p.1.size r a v)(hv:b8 v)(td:v.mv<=1000000000000):() 245 #[.pointer r] w (λe w'=>e=.returned (.tuple #[])/\∃v',Z (dk w' p.1.size r a v')/\Z (ny v v')/\Z (v'.bs.length=v.bs.length)/\Z (dY v'.bs v'.bs.length=v.lv)/\Z (v'.mv=v.mv+1)/\Z (Kf (a.F r) (a.F r) w w')):=by
 have CC:=@cJ;have hlen:=hv.lens;obtain⟨n,hn⟩:=lh v.bs.length;have HN:=U hn;rw[hn]at hlen;have HV:=U hv;have MZ:=U hM;have c2:Cl w r 2 (.slice a.Ab n a.cb):=⟨by rw[hM.hd.cell 2,<-hn];rfl⟩;have or0:Old r w:=⟨hM.hd.lt⟩;clear hM hv hn;go_in;go_wp2_with fail;go_loopw [2,10] (λs x wr=>∃(i t:Nat) (l:da),i<=n/\s=.int .i64 (t:Int)/\x=.int .i64 (i:Int)/\Z (dk wr p.1.size r a l)/\Z (ny v l)/\Z (l.bs.length=n)/\Z (dY l.bs i=t)/\Z (t=((l.bs.take i).map (·.wd)).sum)/\Z (l.mv=v.mv)/\Z (Kf (a.F r) (a.F r) w wr)/\aj wr p) (λ_ x _=>n-(intOf x).toNat);case atStart=>exact⟨0,0,v,aR _,rfl,rfl,MZ,U (ny.refl HV.o),HN,U rfl,U aI,U rfl,U (Kf.refl _ _),⟨pw.st⟩⟩
 case round=>
  obtain⟨i,t,l,hi,rfl,rfl,C,J,E,R0,V7,w4,HKv,V6⟩:=hrel;clear c2 or0;have fr1:∀k,wr.frozen? ⟨r,k,none⟩=false:=λk=>C.o.hd.frozen k;have c2:Cl wr r 2 (.slice a.Ab n a.cb):=⟨by rw[C.o.hd.cell 2,<-E.o];rfl⟩;have or1:Old r wr:=⟨C.o.hd.lt⟩;by_cases bD:i<n
  .obtain⟨b,hb⟩:∃b,l.bs[i]?=some b:=⟨_,bk (by rwa[E.o])⟩;have L:=J.o.ok;obtain⟨g,hA,c10,c11,c12⟩:=C.o.ak hb;obtain⟨G,hAc,sc,l1,l2,l3,l4,l5,Fa⟩:=C.o.row L hb;(have R5:t<=b.fr:=by rw[<-R0.o];exact L.lay.G9 hb);have c1:Cl wr r 1 (.slice G l.cs.length a.cc):=⟨by rw[C.o.hd.cell 1,<-hAc];rfl⟩;have og1:Old g wr:=⟨cY c11.eq⟩;have HB:=U hb;have M1:=U L;have HAB:=U hA;have HAC:=U hAc;have SC:=U sc;have oI:Z ((cont l.cs b).length=b.wd):=U (ju l3);have HT:Z (t+b.wd<=l.cs.length):=U Y;have V8:=U R5;have R6:Z ((l.mp.map (·.1)).Nodup):=U L.AV;have w5:Z (b.h∈l.mp.map (·.1)):=U (cw.2 ⟨_,L.RN b (aK hb),rfl⟩);(have ab0:∀W:World,(Instr.slice 26 (.slice G l.cs.length a.cc) (some (.int .i64 (t:Int))) (some (.int .i64 ((t:Int)+(b.wd:Int)))) none).run prog W=.ok (.slice (some ⟨G,t,none⟩) b.wd (a.cc-t)) W:=λW=>by (have hso:∀W,(sizeOf (prog.elem 26)).run prog W=.ok 1 W:=λW=>by obtain⟨ii,e1,e2⟩:=bJ.1 (show(prog.info? (prog.elem 26)).map (·.size)=some 1 from by kernel_rfl);simp[sizeOf,typeInfo,e1,e2]);rw[kW W 26 (some ⟨G,0,none⟩) l.cs.length a.cc ap .i64 .i64 (t:Int) ((t:Int)+(b.wd:Int)) Y Y Y,hso];(have e1:((t:Int)+(b.wd:Int)).toNat=t+b.wd:=by omega);have e2:¬a.cc=t:=Y;have e3:t+b.wd-t=b.wd:=Y;simp[Result.andThen,sliced,e1,e2,e3,cf]);(have MQ:IntKind.i64.wrap ((t:Int)+(b.wd:Int))=(t:Int)+(b.wd:Int):=by rw[a7];omega);(have hw2:IntKind.i64.wrap ((b.fr:Int)+(b.wd:Int))=(b.fr:Int)+(b.wd:Int):=by rw[a7];omega);rw[hA]at c2;(have i1:(i:Int)<(n:Int):=by omega);clear hb L hA hAc sc l1 l2 l3 l4 l5 R5;go_upto_region 5 with fail;refine aU p (λw9=>Cl w9 r 1 (.slice G l.cs.length a.cc)/\Cl w9 g (i*3+1) (b.fr:Int)/\Cl w9 g (i*3+2) (b.wd:Int)) ap ⟨am,am,am⟩ (λN _=>?_);refine a1 0 ?_;refine a1 1 ?_;refine a1 2 ?_;refine a1 3 ?_;refine a1 4 ?_;refine a1 5 ?_;refine a1 6 ?_;refine a1 7 ?_;refine a1 8 ?_;refine a1 9 ?_;refine a1 10 ?_;refine a1 11 ?_;refine a1 12 ?_;refine a1 13 ?_;refine a1 14 ?_;refine a1 15 ?_;refine a1 16 ?_;refine a1 17 ?_;refine a1 18 ?_;refine a1 19 ?_;refine a1 20 ?_;refine a1 21 ?_;refine a1 22 ?_;refine a1 23 ?_;refine a1 24 ?_;refine a1 25 ?_;refine a1 26 ?_;refine a1 27 ?_;refine a1 28 ?_;refine a1 29 ?_;refine aJ 30 λK hK=>?_;have O:=C.o.at (w':=N);have P:=O.cs;rw[HAC.o]at P;obtain⟨X,rj,ho6⟩:=Qt (ad:=⟨G,b.fr,none⟩) (t:=t) (xs:=cont l.cs b) P (λj z hj=>(SC.o.rd.below (aO wr N)).all hj|>λh=>by rw[cf];exact h) (by rw[oI.o];exact HT.o);rw[oI.o]at rj;(have V:AF a.Ac G:=by rw[HAC.o];exact zC4);have V9:G≠r:=(O.apart.2.1 G V).1;have Hk:p.1.size<=G:=(O.lt G (.inr (.inr (.inl V)))).1;have qP:G≠g:=λe=>(O.apart.2.1 G V).2.2 (by rw[HAB.o,e];exact⟨_,rfl,rfl⟩);have M:=U (O.cells HAC.o ho6 (lm (by rw[oI.o];exact HT.o)));have y3:Z (Kf (a.F r) (a.F r) w (N.setRow G X)):=U ((HKv.o.trans (Kf.later _ (w:=wr))).trans (mK (.inr (.inr (.inl V))) X));refine dZ rfl _ _ 26 26 rfl _ _ rfl rfl (rj _ _ _)<|aE hK ?_ ⟨⟨⟨(aO p N).os,(aO p N).tape,(aO p N).output,by rw[size_setRow];exact(aO p N).size,λb hb=>by rw[bl Y];exact(aO p N).block b hb⟩⟩,⟨(d4 (bl (dp V9) X)).trans (Cl.eq (w:=N))⟩,⟨(d4 (bl (dp qP) X)).trans (Cl.eq (w:=N))⟩,⟨(d4 (bl (dp qP) X)).trans (Cl.eq (w:=N))⟩⟩;refine a8 ?_;skip;obtain⟨T,ro⟩:=lg ({l with cs:=jW l.cs t (cont l.cs b)});rw[<-ro]at M;obtain⟨W1,lu⟩:=lg (N.setRow G X);rw[<-lu]at M y3;(have M2:T.bs[i]?=some b:=by rw[ro];exact HB.o);obtain⟨g2,D9,-,d11,-⟩:=M.o.ak M2;(obtain rfl:g2=g:=by have I:=HAB.o;rw[D9]at I;injection I with I;injection I);(have fg1:∀k,W1.frozen? ⟨g2,k,none⟩=false:=λk=>by have I:=M.o.bs;rw[D9]at I;obtain⟨cur,p0,_⟩:=I.whole;simp[World.frozen?,p0]);have HA2:=U D9;clear D9;rw[<-lu];have R7:=U ro;have Hm:=U M2;clear ro M2 lu c10 c11 c12 c1 c2 og1 fr1 or1 ab0 Fa;go_upto_region 7 with fail;obtain⟨W2,nz⟩:=lg (W1.setCell (g2,i*3+1) (t:Int));(have hM2:dk W2 p.1.size r a {T with bs:=T.bs.set i ⟨b.h,t,b.wd⟩}:=by rw[nz];exact M.o.aec HA2.o Hm.o);(have hag:AF a.Ab g2:=by rw[HA2.o];exact zC4);have Q:=U hM2;have nB:Z (Kf (a.F r) (a.F r) w W2):=U (by rw[nz];exact y3.o.av (.inr (.inr (.inr hag))) _);have Wa:Z (g2≠a.q):=U (M.o.apart.2.2 g2 hag).2;have pW2:aj W2 p:=nB.o.prev λb hb=>(MZ.o.lt b hb).1;have vz:i<T.bs.length:=(bj.1 Hm.o).1;obtain⟨g3,D,d20,-,d22⟩:=Q.o.ak (i:=i) (b:=⟨b.h,t,b.wd⟩) (by show(T.bs.set i _)[i]?=_;rw[jK vz]);(obtain rfl:g3=g2:=by rw[HA2.o]at D;injection D with D;injection D with D;exact D.symm);have d23:Cl W2 r 3 (.map (some a.q)):=⟨Q.o.hd.cell 3⟩;have og2:Old g3 W2:=⟨cY d20.eq⟩;dsimp only at d20 d22;have R6:Z (((({T with bs:=T.bs.set i ⟨b.h,t,b.wd⟩}:da).mp).map (·.1)).Nodup):=U (by rw[R7.o];exact R6.o);have w5:Z (b.h∈(({T with bs:=T.bs.set i ⟨b.h,t,b.wd⟩}:da).mp).map (·.1)):=U (by rw[R7.o];exact w5.o);have aed:=U D;have Wb:=U vz;rw[<-nz];clear nz hM2 hag d11 fg1 D vz;refine aU p (λw9=>Cl w9 r 3 (.map (some a.q))/\Cl w9 g3 (i*3) (b.h:Int)) ap ⟨am,am⟩ (λuy _=>?_);refine bp 0 ?_;refine bp 1 ?_;refine bp 2 ?_;refine bp 3 ?_;refine bp 4 ?_;refine bp 5 ?_;refine bp 6 ?_;refine bp 7 ?_;refine bp 8 ?_;refine aJ 9 λK hK=>?_;obtain⟨W3,Wc,D8,R,wZ,S⟩:=(Q.o.at (w':=uy)).mp.VU (k:=b.h) (z:=(t:Int)) R6.o w5.o;have hM3:=(Q.o.at (w':=uy)).V0 D8 R;have HM3:=U hM3;have t5:Z (Kf (a.F r) (a.F r) w W3):=U ((nB.o.trans (Kf.later _ (w:=W2))).trans (Hl (.inr (.inl rfl)) R wZ S));have hpq:p.1.size<=a.q:=Q.o.hq;go_simp;refine aE hK ?_ ⟨⟨⟨S.os.trans (aO p uy).os,S.tape.trans (aO p uy).tape,S.output.trans (aO p uy).output,by rw[wZ];exact(aO p uy).size,λb hb=>by rw[R b Y];exact(aO p uy).block b hb⟩⟩,⟨hM3.hd.cell 3⟩,⟨(d4 (R g3 Wa.o)).trans (Cl.eq (w:=uy))⟩⟩;clear hK K Wc D8 R wZ S hM3;refine a8 ?_;skip;(have d32:Cl W3 g3 (i*3+2) (b.wd:Int):=by obtain⟨g4,hA4,-,-,e2⟩:=HM3.o.ak (i:=i) (b:=⟨b.h,t,b.wd⟩) (by show(T.bs.set i _)[i]?=_;rw[jK Wb.o]);(obtain rfl:g4=g3:=by have I:=aed.o;rw[hA4]at I;injection I with I;injection I);exact e2);go_wp2_with fail;go_roundw;(case rel=>refine⟨i+1,t+b.wd,l.move i b t,Y,by go_num,by go_num,?_,U (J.o.trans (ny.move M1.o HB.o (dT R0.o) V8.o)),U ?_,U ?_,U ?_,w4,t5,t5.o.prev λb hb=>(MZ.o.lt b hb).1⟩;have I:=HM3.o;rw[R7.o]at I;exact U I;show(l.bs.set i _).length=n;rw[ei];exact E.o;show dY (l.bs.set i _) (i+1)=t+b.wd;exact mH (jK (bj.1 HB.o).1);show t+b.wd=(((l.bs.set i _).take (i+1)).map (·.wd)).sum;rw[RZ HB.o,<-V7.o]);case measure=>exact ou
  obtain rfl:i=n:=Y;have c9:Cl wr r 9 (l.mv:Int):=⟨C.o.hd.cell 9⟩;have c4:Cl wr r 4 (l.pk:Int):=⟨C.o.hd.cell 4⟩;(have hw9:IntKind.i64.wrap ((l.mv:Int)+1)=((l.mv+1:Nat):Int):=by rw[w4.o,a7];omega);go_wp2_with fail;refine⟨rfl,.tuple #[],by simp[results,results245,go_sem],rfl,l.hB i (l.mv+1),?_,U (J.o.trans (ny.hB J.o.ok (by rw[E.o];exact al _))),U (by show l.bs.length=_;rw[E.o,HN.o]),U ?_,U (by show l.mv+1=_;rw[w4.o]),?_⟩;exact U ((C.o.vw (v':=l.hB i l.mv) (i:=4) (x:=.int .i64 (i:Int)) zC8 rfl rfl rfl).vw (v':=l.hB i (l.mv+1)) (i:=9) zC8 rfl rfl rfl);show dY l.bs l.bs.length=v.lv;rw[E.o,R0.o,V7.o,<-E.o,ek,<-J.o.lv];exact J.o.ok.lv.symm;exact U ((HKv.o.av (.inl rfl) _).av (.inl rfl) _)
end
section
variable{w:World}{B k n t:Nat}
theorem nU(k):Builtin.zeroCells (Value.cells an) k=(List.replicate k (Value.int .i64 0)).toArray:=by
 apply pK;simp[Builtin.zeroCells,Value.cells];apply uY;simp;grind
def y4(hg:w.heap[g]?=some (.cells cur 65 (0,0)))(y:cur.size=c)(hr:n+k<=c)(z:0<k)(C:k<=100000000)(l):
  (Builtin.append_ #[26,3] l #[(g,n,c),k]).run prog w=.ok (.slice g (n+k) c) (w.setRow g (cur.toList.take n++List.replicate k (Value.int .i64 0)++cur.toList.drop (n+k)).toArray):=by
 have⟨i,hi,e6⟩:=bJ.1 (show(prog.info? 65).map (λi=>(i.zero,i.size,i.bytes))=some (some (.int .i64 0),1,8)from by kernel_rfl);simp only[dS]at e6;have⟨hz,hs,hb⟩:=e6;have hu:prog.underlying 26=some (.slice 65):=ap;have b:=GZ prog g n 65 (List.replicate k (Value.int .i64 0)) 0 cur w hg ch (λv hv=>by rw[e3 hv];rfl);simp only[d9,fe]at b;have m:IntKind.i64.wrap (k:Int)=k:=by rw[a7];omega
 have r:¬((k:Int)<0):=by omega
 have u:¬(281474976710656<(k:Int)*8):=by omega
 have e:¬(k=0):=Y;have j:=nU k;simp[Builtin.append_,eu hu,eu underlying3,sizeOf,typeInfo,zeroValue,hi,hz,hs,hb,asInt,asIntOf,m,r,u,e,hr,j,cf,b]
theorem R8(h:aD w B 65 A c zs)(C:0<k)(M:zs.length+k<=100000000)(l:B<=w.1.size):
  ∃m D w',(∀b,(Builtin.append_ #[26,3] b #[.slice A zs c,k]).run prog w=.ok (.slice m (zs.length+k) D) w')/\aD w' B 65 m D (zs++List.replicate k 0)/\dj A m w w':=by
 have⟨i,hi,e6⟩:=bJ.1 (show(prog.info? 65).map (λi=>(i.zero,i.size,i.bytes))=some (some (.int .i64 0),1,8)from by kernel_rfl);simp only[dS]at e6;have⟨r,hs,hb⟩:=e6;have N:=h.hD;have E:(zs++List.replicate k 0).length=zs.length+k:=aI;by_cases hr:zs.length+k<=c;rcases h.form with⟨_,F,L⟩|⟨g,cur,rfl,l,hg,_,hm,I,ht⟩;subst L;omega;refine⟨_,_,_,λb=>y4 hg I hr C Y b,?_,ez (fY.1 hg).1 _⟩;unfold aD;rw[E];refine aT.mk' (k:=1) l (bT hg _) hr hm ch ?_;rw[fm,hk ch,ht];simp;have e:(Builtin.firstCells i.size zs.length (.slice A zs c)).run prog w.drew=.ok (zs.map (Value.int .i64)).toArray w.drew:=by
  rw[hs];rcases h.form with⟨rfl,F,_⟩|⟨g,cur,rfl,l,hg,_,hm,I,ht⟩;subst F;exact run_firstCells_none w.drew 1 0 0 c
  exact GJ w.drew 1 zs.length ⟨g,0,none⟩ zs.length c (zs.map (Value.int .i64)) aI (λj v J=>by
   rw[bo]at J;obtain⟨z,r,rfl⟩:=bJ.1 J;rw[cf];exact h.rd.all r)
 obtain⟨G,K⟩:=lg (grownCap w (zs.length+k) c 65);have u:zs.length+k<=G:=by rw[K];exact pL w _ _ _
 have y:G<=maxLen:=by rw[K];exact sD w (zs.length+k) c 65 zC6
 refine⟨some ⟨w.1.size,0,none⟩,G,w.drew.alloc (.cells ((zs.map (Value.int .i64)).toArray++Builtin.zeroCells (Value.cells an) k++Builtin.zeroCells (Value.cells an) (G-(zs.length+k))) 65),λb=>?_,?_,dj.fresh ((aY _ _).drew.alloc (al _) _) (al _)⟩;have:=Lib.run_append_grow_zeros (P:=prog) w 26 3 b 65 i _ .i64 .i64 ap ap hi r A zs.length c (zs.map (Value.int .i64)) e k C (by rw[hs];decide) Y Y (by rw[hb];omega) (by rw[hb];exact GV Y Y);grind;unfold aD;rw[E,nU,nU];refine aT.mk' (k:=1) l (jP w.drew _) u y ch ?_;rw[fm];simp only[GI];rw[hk aI];simp
theorem M3(h:aD w B 65 (some ⟨g,0,none⟩) c zs)(j:0<k)(ht:t+k<=zs.length){cap:Nat}:
  ∃X,(∀b,(Builtin.clear_ #[26] b #[.slice (some ⟨g,t,none⟩) k cap]).run prog w=.ok (.tuple #[]) (w.setRow g X))/\aD (w.setRow g X) B 65 (some ⟨g,0,none⟩) c (jW zs t (List.replicate k 0)):=by
 rcases h.form with⟨l,_⟩|⟨F,cur,e,m,hg,r,hm,u,hv⟩;cases l;cases e;have⟨i,hi,e6⟩:=bJ.1 (show(prog.info? 65).map (λi=>(i.zero,i.size,i.bytes))=some (some (.int .i64 0),1,8)from by kernel_rfl);simp only[dS]at e6;obtain⟨y,hs,hb⟩:=e6;refine⟨(cur.toList.take t++List.replicate k (Value.int .i64 0)++cur.toList.drop (t+(List.replicate k (Value.int .i64 0)).length)).toArray,λb=>?_,?_⟩;exact nT (P:=prog) (w:=w) (E:=65) (z:=.int .i64 0) (n:=k) (us:=List.replicate k (Value.int .i64 0)) (o:=t) 26 b ap (λW=>by simp[zeroValue,typeInfo,hi,y]) (by rw[nU]) (λv hv=>by rw[e3 hv];rfl) j hg ch;have C:=lm (cs:=zs) (p:=t) (xs:=List.replicate k 0) (by simpa using ht);have D:cur.toList.length=c:=by simpa using u
 have:=aT.mk' (w:=w.setRow g (cur.toList.take t++List.replicate k (Value.int .i64 0)++cur.toList.drop (t+(List.replicate k (Value.int .i64 0)).length)).toArray) (E:=65) (k:=1) (n:=zs.length) (c:=c) (vs:=(jW zs t (List.replicate k 0)).map (Value.int .i64)) m (bT hg _) r hm ch (by
  rw[fm,fe,jW,c9,c9,fT,kX,<-hv,List.map_replicate,fe];rw[e5,d5 Y];rw[sH,bV ch];congr 1;rw[uQ]
  grind)
 unfold aD;rwa[C]
end
variable{e:Nat}
section
variable{w:World}{B k n:Nat}{a:ta}{v:da}{b:gb}{x:Value}
theorem dk.aee(m:dk w B r a v)(C:dj a.Ac A' w w')(hr:aD w' B 65 A' c' zs):dk (w'.setCell (r,1) (.slice A' zs c')) B r {a with Ac:=A',cc:=c'} {v with cs:=zs}/\Kf (a.F r) (({a with Ac:=A',cc:=c'}:ta).F r) w (w'.setCell (r,1) (.slice A' zs c')):=by
 obtain⟨p1,D,L⟩:=m.apart;have K:aA w' r 197 (kl a v):=C.ak m.hd λl e u=>(D r ⟨l,e,u⟩).1 rfl;have E:aT w' B 311 3 a.Ab a.cb v.bs.length (h7 v.bs):=m.bs.same λl e=>C.off _ (m.bs.lt l e) λG M u=>(D l.block ⟨G,M,u⟩).2.2 ⟨l,e,rfl⟩;have I:gC w' a.q v.mp:=m.mp.same (C.off _ m.mp.lt λl e u=>(D a.q ⟨l,e,u⟩).2.1 rfl);have J:∀l,A'=some l->l.block≠r:=λl e u=>by obtain⟨_,_,N,O⟩:=hr.af ⟨l,e,u⟩;unfold aA at K;grind
 refine⟨⟨?_,?_,?_,?_,m.hr,m.hq⟩,?_⟩;exact K.av 1 _;exact hr.same λl e=>bb w' ⟨r,1,none⟩ _ _ (J l e);exact E.same λl e=>bb w' ⟨r,1,none⟩ _ _ (L l.block ⟨l,e,rfl⟩).1;exact I.same (bb w' ⟨r,1,none⟩ _ _ (dp p1));refine((Kf.jE C).more (λb hb=>.inr (.inr (.inl hb))) (λb hb=>?_)).av (.inl rfl) _;rcases hb with hb|hb|hb|hb;exact .inr (.inl (.inl hb));exact .inr (.inl (.inr (.inl hb)));exact .inl hb;exact .inr (.inl (.inr (.inr (.inr hb))))
theorem b8.few(hv:b8 v):v.bs.length<=16777216:=by
 have e:v.bs.length<=(v.bs.map (·.wd)).sum:=zC2;have m:=hv.lv;have u:=hv.AX;grind
def JB(W:ab){A:bz}{L c k:Nat}(C:A=some ⟨g,0,none⟩)(E:0<k)(F:e+k<=L)(G:L<=c):(Instr.slice 26 (A,L,c) (some (.int .i64 (e:Int))) (some (.int .i64 ((e:Int)+(k:Int)))) none).run prog W=.ok (.slice (some ⟨g,e,none⟩) k (c-e)) W:=by
 subst C;have l:∀W,(sizeOf (prog.elem 26)).run prog W=.ok 1 W:=λW=>by obtain⟨I,m,u⟩:=bJ.1 (show(prog.info? (prog.elem 26)).map (·.size)=some 1 from by kernel_rfl);simp[sizeOf,typeInfo,m,u]
 rw[kW W 26 (some ⟨g,0,none⟩) L c ap .i64 .i64 (e:Int) ((e:Int)+(k:Int)) Y Y Y,l];have m:((e:Int)+(k:Int)).toNat=e+k:=by omega
 have u:¬c=e:=Y;have D:e+k-e=k:=Y;simp[Result.andThen,sliced,m,u,D,cf]
theorem Wd[pw:aM p w](hM:dk w p.1.size r a v)(hv:b8 v)(h1:1<=wd)(h2:wd<=65536)(hl:v.lv+wd<=v.cap)(oJ:v.nx<=1000000000000)(td:v.mv<=1000000000000):
  () 201 #[.pointer r,wd] w (λe w'=>e=.returned (.tuple #[.int .i64 ((v.nx+1:Nat):Int),an])/\∃a' v',Z (dk w' p.1.size r a' v')/\Z (vm v wd v')/\Z (v'.mv<=v.mv+1)/\Z (Kf (a.F r) (a'.F r) w w')):=by
 have CC:=@cJ;have pZ:=hv.AX;have vj:=hv.cl;have rj:=hv.cap;have HV:=U hv;have M:=U hM;have c0:Cl w r 0 (.int .i64 (v.cap:Int)):=⟨hM.hd.cell 0⟩;have c6:Cl w r 6 (.int .i64 (v.lv:Int)):=⟨hM.hd.cell 6⟩;have or0:Old r w:=⟨hM.hd.lt⟩;have d1:decide ((wd:Int)<1)=false:=by simp;omega
 have d2:decide ((65536:Int)<(wd:Int))=false:=by simp;omega
 have Bf:IntKind.i64.wrap ((v.cap:Int)-(v.lv:Int))=(v.cap:Int)-(v.lv:Int):=by rw[a7];omega
 have d3:decide ((v.cap:Int)-(v.lv:Int)<(wd:Int))=false:=by simp;omega
 have M5:Z (p.1.size<=w.1.size):=U pw.st.size;clear hM hv;go_in;go_upto_region 3 with fail;refine aq ap (λux _=>?_);refine qL [0,1,2,3,4,5,6,7,8,9,10] ?_;refine a8 ?_;skip;go_upto_if 35 with(go_at_call 244;refine(aa3 (p:=p) (wd:=wd) (M.o.at (w':=ux)) HV.o).mono ?_;rintro e u1 ⟨pk,i,ok,rfl,Ea,JC,MY,hG⟩;have t6:=U Ea;have rk:Z (Kf (a.F r) (a.F r) w u1):=U ((Kf.later _ (w:=w)).trans MY);have We:=U JC;have aef:(v.hB pk v.mv).mv<=1000000000000:=td;have Wf:Z (b8 (v.hB pk v.mv)):=U (ny.hB HV.o JC).ok;have t7:aj u1 p:=rk.o.prev λb hb=>(M.o.lt b hb).1;clear Ea MY JC);go_cut [6,7] (λs s7 wx=>∃(i:Nat) (l:da),s=.int .i64 (i:Int)/\Z (dk wx p.1.size r a l)/\Z (ny v l)/\Z (l.mv<=v.mv+1)/\Z (i<=l.bs.length)/\Z (∀b,l.bs[i]?=some b->dY l.bs i+wd<=b.fr)/\Z (dY l.bs i+wd<=l.cap)/\Z (Kf (a.F r) (a.F r) w wx)/\aj wx p);case first=>
  cases ok
  .go_upto_region 8 with(go_at_call 245;refine(JA (p:=p) t6.o Wf.o aef).mono ?_;rintro e u2 ⟨rfl,l,G,Q,qS,y5,w4,nB⟩;have t8:aj u2 p:=(rk.o.trans nB.o).prev λb hb=>(M.o.lt b hb).1;obtain⟨m,hm⟩:∃m,l.bs.length=m:=⟨_,rfl⟩;have vA:=U hm;have c2:Cl u2 r 2 (.slice a.Ab m a.cb):=⟨by rw[G.o.hd.cell 2,<-hm];rfl⟩;clear hm);go_wp2_with fail;go_meet;case rel=>have E9:l.cap=v.cap:=Q.o.cap;refine⟨m,l,rfl,G,U ((ny.hB HV.o We.o).trans Q.o),U (dT w4.o),U (dT vA.o.symm),U λb hb=>?_,U ?_,U (rk.o.trans nB.o),am⟩;have:=(bj.1 hb).1;rw[vA.o]at this;omega;have:=y5.o;rw[vA.o]at this;rwa[this,E9]
  go_wp2_with fail;go_meet;case rel=>obtain⟨g1,g2,g3⟩:=hG.o bq;exact⟨i,v.hB pk v.mv,rfl,t6,U (ny.hB HV.o We.o),U (db _),U g1,U g2,U g3,rk,am⟩
 case rest=>
  obtain⟨i,l,rfl,M4,Q,w4,N,HG,HE,HK,pwc⟩:=hcut;have D:Z (b8 l):=U Q.o.ok;have w7:Z (l.nx=v.nx):=U Q.o.nx;have aeg:Z (l.lv=v.lv):=U Q.o.lv;have ac1:l.cap<=16777216:=D.o.cap;have ab1:l.bs.length<=16777216:=D.o.few;have ab2:l.cs.length<=16777216:=aQ D.o.cl ac1;have tU:=N.o;have aeh:Z (i<=l.bs.length):=N;obtain⟨e,he⟩:=lh (dY l.bs i);have Bi:=U he;(have hec:e+wd<=l.cap:=by rw[<-he];exact HE.o);have HEC:=U hec;obtain⟨L,hL⟩:=lh l.cs.length;have R:=U hL;have c1:Cl wc r 1 (.slice a.Ac L a.cc):=⟨by rw[M4.o.hd.cell 1,<-hL];rfl⟩;have orc:Old r wc:=⟨M4.o.hd.lt⟩;(have hwi:IntKind.i64.wrap ((i:Int)-1)=(i:Int)-1:=by rw[a7];omega);(have hwe:IntKind.i64.wrap ((e:Int)+(wd:Int))=(e:Int)+(wd:Int):=by rw[a7];omega);obtain⟨z,hz⟩:=lh ((e:Int)+(wd:Int)-(L:Int):Int);(have hwz:IntKind.i64.wrap ((e:Int)+(wd:Int)-(L:Int))=z:=by rw[a7,<-hz];omega);have HZ:=U hz;have aei:Z (L<=16777216):=U (by rwa[<-hL]);have Bj:=U ab1;obtain⟨mo,hmo⟩:=lh (decide (0<z));clear he hz hL ab2 ab1 c0 c6 or0;go_upto_if 58 with(go_at_call 246;refine mv (mc M4 D N rfl Bi) λu3 _=>?_);go_cut [] (λwx=>∃I,Z (dk wx p.1.size r I {l with cs:=l.cs++List.replicate (e+wd-l.cs.length) 0})/\Z (Kf (a.F r) (I.F r) w wx)/\aj wx p);case first=>
   cases mo
   .go_wp2_with fail;go_meet;case rel=>(have h0:e+wd-l.cs.length=0:=by have h3:=of_decide_eq_false hmo;have:=HZ.o;have:=R.o;omega);refine⟨a,U ?_,U (HK.o.trans (Kf.later _ (w:=wc))),aC⟩;rw[h0];have V:dk _ p.1.size r a l:=M4.o.at (w':=u3);(have e9:({l with cs:=l.cs++List.replicate 0 0}:da)=l:=by obtain⟨f1,f2,f3,f4,f5,f6,f7,f8,f9,f10⟩:=l;simp);rwa[e9]
   obtain⟨k,hk⟩:∃k:Nat,z=(k:Int):=⟨z.toNat,by have:=pH hmo;omega⟩;subst hk;(have p4:0<k:=by have:=pH hmo;omega);have M6:Z (k=e+wd-L):=U (by have:=HZ.o;omega);(have hkL:L+k<=16777216:=by have:=HZ.o;omega);have Ho:p.1.size<=u3.1.size:=aQ pwc.st.size (ai (w:=wc) (w':=u3));have u:Z (dk u3 p.1.size r a l):=U M4.o.at;obtain⟨A',c',W2,hap,ho,hch⟩:=R8 u.o.cs p4 (by rw[R.o];omega) Ho;have hR:=u.o.aee hch ho;(have hlen:(l.cs++List.replicate k 0).length=L+k:=by rw[bh,fe,R.o]);rw[hlen]at hR;rw[R.o]at hap;have HR:=U hR;have M2:aA W2 r 197 (kl a l):=hch.ak u.o.hd λad e hx=>(u.o.apart.2.1 r ⟨ad,e,hx⟩).1 rfl;have fr2:∀i,W2.frozen? ⟨r,i,none⟩=false:=λi=>M2.frozen i;have cr2:Cl W2 r 1 (.slice a.Ac L a.cc):=⟨by rw[M2.cell 1,<-R.o];rfl⟩;have HHP:=U hap;clear hR hlen hch ho M2 hap;go_wp2_with (at_builtin;refine Lib.wpList_append_run _ rfl _ _ 26 3 rfl _ _ rfl rfl _ _ (HHP.o _) ?_);go_meet;case rel=>have k9:Kf (a.F r) (({a with Ac:=A',cc:=c'}:ta).F r) w (W2.setCell ⟨r,1,none⟩ (.slice A' (L+k) c')):=(HK.o.trans (Kf.later _ (w:=wc))).trans HR.o.2;refine⟨{a with Ac:=A',cc:=c'},U ?_,U k9,k9.prev λb hb=>(M.o.lt b hb).1⟩;rw[R.o,<-M6.o];exact HR.o.1
  case rest=>
   obtain⟨I,G,nB,pw2⟩:=hcut;have t2:Z (∀ad:Addr,True):=U λ_=>bq;clear t2;(have E:e+wd<=(l.cs++List.replicate (e+wd-l.cs.length) 0).length:=by simp;omega);obtain⟨C2,Eb⟩:=lg (l.cs++List.replicate (e+wd-l.cs.length) (0:Int));rw[<-Eb]at E G;(have aej:C2.length<=16777216:=by have:=R.o;have:=aei.o;rw[Eb];simp;omega);(obtain⟨gc,D9⟩:∃gc,I.Ac=some ⟨gc,0,none⟩:=by rcases G.o.cs.form with⟨_,h0,_⟩|⟨g,cur,hA,_⟩;have h0':C2=[]:=h0;rw[h0']at E;simp at E;omega;exact⟨g,hA⟩);have Wg:C2.length<=I.cc:=G.o.cs.hD;obtain⟨L2,Wh⟩:=lh C2.length;have c12:Cl wc r 1 (.slice (some ⟨gc,0,none⟩) L2 I.cc):=⟨by rw[G.o.hd.cell 1,<-D9,<-Wh];rfl⟩;rw[Wh]at E Wg aej;have kE:=λW=>JB W (A:=some ⟨gc,0,none⟩) (e:=e) rfl h1 E Wg;have JD:=G.o.cs;rw[D9]at JD;obtain⟨X,aek,ho⟩:=M3 (t:=e) (k:=wd) (cap:=I.cc-e) JD h1 (by show _<=C2.length;rw[Wh];exact E);have u:=U (G.o.cells D9 ho (lm (by rw[fe];show _<=C2.length;rw[Wh];exact E)));have t5:Z (Kf (a.F r) (I.F r) w (wc.setRow gc X)):=U (nB.o.trans (mK (.inr (.inr (.inl ⟨_,D9,rfl⟩))) X));have y6:=U Eb;have or2:Old r wc:=⟨G.o.hd.lt⟩;clear Eb D9 Wh JD ho c1 orc;go_upto_region 15 with fail;obtain⟨W1,lu⟩:=lg (wc.setRow gc X);rw[<-lu]at u t5;have fr1:∀k,W1.frozen? ⟨r,k,none⟩=false:=λk=>u.o.hd.frozen k;have c51:Cl W1 r 5 (.int .i64 (l.nx:Int)):=⟨u.o.hd.cell 5⟩;obtain⟨C,Ec⟩:=lh (l.nx+1);have M7:=U Ec;(have hw5:IntKind.i64.wrap ((l.nx:Int)+1)=(C:Int):=by have V:=w7.o;rw[a7];omega);clear Ec;have or1:Old r W1:=⟨u.o.hd.lt⟩;rw[<-lu];clear lu c12 kE aek or2;go_upto_region 16 with fail;obtain⟨CS,hCS⟩:=lg (jW C2 e (List.replicate wd 0));rw[<-hCS]at u;have M8:=U hCS;obtain⟨v3,JE⟩:=lg ({l with cs:=CS,nx:=C});(have S:dk (W1.setCell ⟨r,5,none⟩ (.int .i64 (C:Int))) p.1.size r I v3:=by rw[JE];exact u.o.vw (i:=5) zC8 rfl rfl rfl);have vy:Kf (a.F r) (I.F r) w (W1.setCell ⟨r,5,none⟩ (.int .i64 (C:Int))):=t5.o.av (.inl rfl) _;obtain⟨W3,hW3⟩:=lg (W1.setCell ⟨r,5,none⟩ (.int .i64 (C:Int)));rw[<-hW3]at S vy;have pW3:aj W3 p:=vy.prev λb hb=>(M.o.lt b hb).1;obtain⟨nb,y8⟩:=lh l.bs.length;(have O:v3.bs=l.bs:=by rw[JE]);have HBR:Z (aT W3 p.1.size 311 3 I.Ab I.cb nb (h7 v3.bs)):=U (by have V:=S.bs;rw[O,y8]at V;rw[O];exact V);have c23:Cl W3 r 2 (.slice I.Ab nb I.cb):=⟨by rw[S.hd.cell 2,<-y8,<-O];rfl⟩;have c53:Cl W3 r 5 (.int .i64 (C:Int)):=⟨by rw[S.hd.cell 5,JE];rfl⟩;have or3:Old r W3:=⟨S.hd.lt⟩;have ab3:Z (p.1.size<=W3.1.size):=U pW3.st.size;have HNB:Z (nb<=16777216):=U (by rw[<-y8];exact Bj.o);have HIB:Z (i<=nb):=U (by rw[<-y8];exact N.o);have Hp:=U JE;have ab4:=U S;have ab5:=U vy;have ti:=U y8;have ael:=U O;rw[<-hW3];clear hCS JE S vy y8 O fr1 c51 or1;clear u t5 M5 N;have u:=ab4;have t5:=ab5;have M5:=ab3;have N:=HIB;clear hW3 ab4 ab5 ab3 HIB;obtain⟨b4,hb4⟩:=lg (l.bs.take i++⟨(C:Int),e,wd⟩::l.bs.drop i);(have Bg:b4.length=nb+1:=by rw[hb4];have:=ti.o;have:=N.o;simp;omega);have HB4:=U hb4;have R9:=U Bg;go_cut [] (λwx=>∃a4 v4,Z (dk wx p.1.size r a4 v4)/\Z (v4={l with cs:=CS,nx:=C,bs:=b4})/\Z (Kf (a.F r) (a4.F r) w wx)/\aj wx p);case first=>
    refine aU p (λw9=>Cl w9 r 5 (.int .i64 (C:Int))) ap am (λT _=>?_);refine br 0 ?_;refine br 1 ?_;refine br 2 ?_;refine br 3 ?_;refine br 5 ?_;refine br 6 ?_;refine br 7 ?_;refine br 8 ?_;refine br 9 ?_;refine br 10 ?_;refine br 11 ?_;refine br 12 ?_;refine pP 4 13 (λK hK=>?_) (λK hK=>?_);(focus go_simp;refine aE hK ?_ ⟨aG p T,am⟩;refine aJ 13 λK hK=>?_;go_simp;refine aE hK ?_ ⟨aG p _,am⟩;refine bc (λT _ _=>?_));rotate_left;(focus go_simp;refine aE hK ?_ ⟨aG p _,am⟩;refine bc (λT _ _=>?_);refine aJ 4 λK hK=>?_;go_simp;refine aE hK ?_ ⟨aG p T,am⟩);all_goals
     refine aJ 14 λK hK=>?_;go_simp;obtain⟨Wi,aem⟩:aT T p.1.size 311 3 I.Ab I.cb nb (h7 v3.bs)/\True:=⟨HBR.o.at,bq⟩;refine(acY Wi (Ju _) (us:=[.int .i64 (C:Int),.int .i64 (e:Int),.int .i64 (wd:Int)]) Bx.ak rfl (by simp[Value.oneCell']) (λad e9=>sI (bN (HBR.o.lt ad e9) ai)) rfl N.o HNB.o (aQ M5.o ai)).mono ?_;rintro e9 u6 ⟨A6,c6,rfl,r6,J⟩;dsimp only;have hr6:∀i,u6.cell? ⟨r,i,none⟩=T.cell? ⟨r,i,none⟩:=λi=>d4 (J.off r (u.o.at (w':=T)).hd.lt λad e9 hx=>(u.o.apart.2.2 r ⟨ad,e9,hx⟩).1 rfl);have p6:aj u6 p:=⟨(aO p T).trans ⟨J.base.os,J.base.tape,J.base.output,J.size,λb hb=>J.off b (bN hb (aO p T).size) λad e9 hx=>absurd hb (l4.2 (by rw[<-hx];exact(Wi.af ⟨ad,e9,rfl⟩).1))⟩⟩;refine hK.out _ _ ⟨p6,⟨(hr6 5).trans (Cl.eq (w:=T))⟩⟩ (λhHeld=>?_);have CH6:=U J;have R6:=U r6;have KU6:Z (Kf (a.F r) (I.F r) w T):=U (t5.o.trans (Kf.later _ (w:=W3)));have MU6:Z (dk T p.1.size r I v3):=U u.o.at;have hc6:u6.cell? ⟨r,2,none⟩=some (.slice I.Ab nb I.cb):=(hr6 2).trans (Cl.eq (w:=T));have hf6:u6.frozen? ⟨r,2,none⟩=false:=(J.ak (u.o.at (w':=T)).hd (λad e9 hx=>(u.o.apart.2.2 r ⟨ad,e9,hx⟩).1 rfl)).frozen 2;have c56:Cl u6 r 5 (.int .i64 (C:Int)):=⟨(hr6 5).trans (Cl.eq (w:=T))⟩;clear hHeld hK K J r6 Wi aem hr6;(try dsimp only[Act.put,List.setIfInBounds_toArray,List.set_cons_zero,List.set_cons_succ]);refine br 15 ?_;refine br 16 ?_;refine aJ 17 λK hK=>?_;go_simp;refine aE hK ?_ ⟨⟨(aO p u6).setCell (p:=⟨r,2,none⟩) u.o.hr _⟩,Cl.aV am (.inr ao)⟩;clear hK K hc6 hf6;refine a8 ?_;go_wp2_with fail;go_meet;case rel=>
      have Wj:=MU6.o.abY (bs':=b4) (A':=A6) (c':=c6) CH6.o (by
       have V:=R6.o;rw[R9.o,HB4.o];rw[ael.o,<-E6,<-E7]at V;have e9:h7 (l.bs.take i++⟨(C:Int),e,wd⟩::l.bs.drop i)=h7 (l.bs.take i)++[.int .i64 (C:Int),.int .i64 (e:Int),.int .i64 (wd:Int)]++h7 (l.bs.drop i):=by
        rw[jw];simp[h7]
       rw[e9];exact V)
      rw[R9.o]at Wj;obtain⟨a4,ha4⟩:=lg ({I with Ab:=A6,cb:=c6});rw[<-ha4]at Wj;obtain⟨v4,hv4⟩:=lg ({v3 with bs:=b4});rw[<-hv4]at Wj;have JF:Z (v4={l with cs:=CS,nx:=C,bs:=b4}):=U (by rw[hv4,Hp.o]);have P:=U Wj.1;have Sa:Z (Kf (a.F r) (a4.F r) w (u6.setCell ⟨r,2,none⟩ (.slice A6 (nb+1) c6))):=U (KU6.o.trans Wj.2);exact⟨a4,v4,P,JF,Sa,Sa.o.prev λb hb=>(M.o.lt b hb).1⟩
   case rest=>
   obtain⟨a4,v4,P,JF,Sa,pW4⟩:=hcut;obtain⟨W4,rfl⟩:=lg wc;have c34:Cl W4 r 3 (.map (some a4.q)):=⟨P.o.hd.cell 3⟩;have c54:Cl W4 r 5 (.int .i64 (C:Int)):=⟨by rw[P.o.hd.cell 5,JF.o];rfl⟩;have or4:Old r W4:=⟨P.o.hd.lt⟩;have HNM:Z ((C:Int)∉v4.mp.map (·.1)):=U (by
    rw[JF.o]
    show(C:Int)∉l.mp.map (·.1)
    intro hm;obtain⟨x,hx,qU⟩:=cw.1 hm;obtain⟨b,hb,rfl⟩:=D.o.MG x hx;have h8:=D.o.hb b hb;have V:=M7.o;dsimp only at qU;omega)
   have aen:Z ((kl a4 {v4 with mp:=v4.mp++[((C:Int),(e:Int))]})[5]?=some (.int .i64 (C:Int))):=U (by rw[JF.o];rfl);clear c23 c53 or3 pW3;go_upto_region 17 with fail;refine aU p (λw9=>Cl w9 r 3 (.map (some a4.q))/\Cl w9 r 5 (.int .i64 (C:Int))) ap ⟨am,am⟩ (λuz _=>?_);refine bp 0 ?_;refine bp 1 ?_;refine bp 2 ?_;refine bp 3 ?_;refine bp 4 ?_;refine bp 5 ?_;refine bp 6 ?_;refine bp 7 ?_;refine bp 8 ?_;refine aJ 9 λK hK=>?_;obtain⟨W5,Wc,hm5,Wk,hs5,w8⟩:=(P.o.at (w':=uz)).mp.VT (k:=(C:Int)) (z:=(e:Int)) HNM.o;have Ed:=(P.o.at (w':=uz)).V0 hm5 Wk;have rp:=U Ed;have qV:Z (Kf (a.F r) (a4.F r) w W5):=U ((Sa.o.trans (Kf.later _ (w:=W4))).trans (Hl (.inr (.inl rfl)) Wk hs5 w8));have hpq:p.1.size<=a4.q:=P.o.hq;go_simp;refine aE hK ?_ ⟨⟨⟨w8.os.trans (aO p uz).os,w8.tape.trans (aO p uz).tape,w8.output.trans (aO p uz).output,by rw[hs5];exact(aO p uz).size,λb hb=>by rw[Wk b Y];exact(aO p uz).block b hb⟩⟩,⟨Ed.hd.cell 3⟩,⟨(Ed.hd.cell 5).trans aen.o⟩⟩;clear hK K Wc hm5 Wk hs5 w8 Ed;refine a8 ?_;skip;obtain⟨v5,Sb⟩:=lg ({v4 with mp:=v4.mp++[((C:Int),(e:Int))]}:da);have tj:Z (v5={l with cs:=CS,nx:=C,bs:=b4,mp:=l.mp++[((C:Int),(e:Int))]}):=U (by rw[Sb,JF.o]);rw[<-Sb]at rp;have pW5:aj W5 p:=qV.o.prev λb hb=>(M.o.lt b hb).1;have c65:Cl W5 r 6 (.int .i64 (l.lv:Int)):=⟨by rw[rp.o.hd.cell 6,tj.o];rfl⟩;have fr5:∀k,W5.frozen? ⟨r,k,none⟩=false:=λk=>rp.o.hd.frozen k;have or5:Old r W5:=⟨rp.o.hd.lt⟩;obtain⟨l2,rm⟩:=lh (l.lv+wd);(have hw6:IntKind.i64.wrap ((l.lv:Int)+(wd:Int))=(l2:Int):=by have V:=aeg.o;rw[a7];omega);have HL2:=U rm;clear rm c34 c54 or4 pW4 Sb;go_upto_region 19 with fail;obtain⟨v6,M9⟩:=lg ({v5 with lv:=l2});have Na:Z (v6={l with cs:=CS,nx:=C,bs:=b4,mp:=l.mp++[((C:Int),(e:Int))],lv:=l2}):=U (by rw[M9,tj.o]);obtain⟨W6,tk⟩:=lg (W5.setCell ⟨r,6,none⟩ (.int .i64 (l2:Int)));have HM:Z (dk W6 p.1.size r a4 v6):=U (by rw[tk,M9];exact rp.o.vw (i:=6) zC8 rfl rfl rfl);have Sc:Z (Kf (a.F r) (a4.F r) w W6):=U (by rw[tk];exact qV.o.av (.inl rfl) _);have pW6:aj W6 p:=Sc.o.prev λb hb=>(M.o.lt b hb).1;have c66:Cl W6 r 6 (.int .i64 (l2:Int)):=⟨by rw[HM.o.hd.cell 6,Na.o];rfl⟩;have c86:Cl W6 r 8 (.int .i64 (v6.pe:Int)):=⟨HM.o.hd.cell 8⟩;obtain⟨pe,xa⟩:=lh (max l.pe l2);(have Qu:max (v6.pe:Int) (l2:Int)=(pe:Int):=by (have V:v6.pe=l.pe:=by rw[Na.o]);omega);have or6:Old r W6:=⟨HM.o.hd.lt⟩;have HPE:=U xa;rw[<-tk];clear tk xa M9 c65 fr5 or5 pW5;refine aU p (λw9=>Cl w9 r 6 (.int .i64 (l2:Int))) ap am (λuq _=>?_);refine br 0 ?_;refine br 1 ?_;refine br 2 ?_;refine br 3 ?_;refine br 5 ?_;refine br 6 ?_;refine br 7 ?_;refine br 8 ?_;refine aJ 4 λK hK=>?_;go_simp;refine aE hK ?_ ⟨aG p uq,am⟩;refine br 9 ?_;refine br 10 ?_;refine br 11 ?_;refine aJ 12 λK hK=>?_;have aeo:uq.cell? ⟨r,8,none⟩=some (.int .i64 (v6.pe:Int)):=(HM.o.at (w':=uq)).hd.cell 8;have V5:uq.frozen? ⟨r,8,none⟩=false:=(HM.o.at (w':=uq)).hd.frozen 8;go_simp;refine aE hK ?_ ⟨⟨(aO p uq).setCell (p:=⟨r,8,none⟩) HM.o.hr _⟩,Cl.aV am (.inr ao)⟩;clear hK K aeo V5;refine a8 ?_;skip;obtain⟨v7,hv7⟩:=lg ({v6 with pe:=pe});have HV7:Z (v7={l with cs:=CS,nx:=C,bs:=b4,mp:=l.mp++[((C:Int),(e:Int))],lv:=l2,pe:=pe}):=U (by rw[hv7,Na.o]);obtain⟨W7,hW7⟩:=lg (uq.setCell ⟨r,8,none⟩ (.int .i64 (pe:Int)));have RX:Z (dk W7 p.1.size r a4 v7):=U (by rw[hW7,hv7];exact(HM.o.at (w':=uq)).vw (i:=8) zC8 rfl rfl rfl);have y3:Z (Kf (a.F r) (a4.F r) w W7):=U (by rw[hW7];exact(Sc.o.trans (Kf.later _ (w:=W6))).av (.inl rfl) _);have c77:Cl W7 r 7 (.int .i64 (l.hi:Int)):=⟨by rw[RX.o.hd.cell 7,HV7.o];rfl⟩;have c57:Cl W7 r 5 (.int .i64 (C:Int)):=⟨by rw[RX.o.hd.cell 5,HV7.o];rfl⟩;have fr7:∀k,W7.frozen? ⟨r,k,none⟩=false:=λk=>RX.o.hd.frozen k;obtain⟨hh,hhh⟩:=lh (max l.hi (e+wd));(have agf:max (l.hi:Int) ((e:Int)+(wd:Int))=(hh:Int):=by omega);have HHH:=U hhh;rw[<-hW7];clear hW7 hhh hv7 Qu c66 c86 or6 pW6;go_wp2_with fail;go_ret2;have hm8:dk (W7.setCell ⟨r,7,none⟩ (.int .i64 (hh:Int))) p.1.size r a4 {v7 with hi:=hh}:=RX.o.vw (i:=7) zC8 rfl rfl rfl;(have V:C=v.nx+1:=by rw[<-M7.o,w7.o]);refine⟨by subst V;rfl,a4,l.qJ i e wd l.pk,U ?_,U ?_,w4,U (y3.o.av (.inl rfl) _)⟩;(have e9:({v7 with hi:=hh}:da)=l.qJ i e wd l.pk:=by rw[HV7.o,M8.o,y6.o,HB4.o,<-M7.o,<-HL2.o,<-HPE.o,<-HHH.o,<-HL2.o];rfl);grind;refine vm.of Q.o aeh.o (dT Bi.o) (λb hb=>?_) HEC.o h1 (Nat.le_succ_of_le D.o.pk);rw[<-Bi.o];exact HG.o b hb
end
