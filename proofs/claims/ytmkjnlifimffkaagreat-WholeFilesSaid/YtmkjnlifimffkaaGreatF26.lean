/- Lemmas. -/
import Derived.Laws.BitsLemmas
import Derived.Test.YtmkjnlifimffkaaGreatF17
namespace Go.Proofs.YtmkjnlifimffkaaGreat
open Go.RowKit Tryz
set_option linter.all false
set_option maxRecDepth 100000
set_option maxHeartbeats 0
variable{p w':World}{A B:Option Addr}{c d g m:Nat}{L' zs:List Int}{x z:Int}
class Bs(w:World)(A:Option Addr)(n:Nat)(zs:outParam (List Int)):Prop where
 rd:∀(j:Nat) (z:Int),zs[j]?=some z->∃b off,A=some ⟨b,off,none⟩/\b<w.1.size/\w.cell? (b,off+j)=some (.int .u8 z)/\0<=z/\z<256
 len:n=zs
section
variable{w:World}{n k:Nat}{L:List Int}{sh:Bool}
instance(priority:=low) Bs.step[p:aj w' w][h:Bs w A n zs]:Bs w' A n zs:=⟨λj z l=>by
 obtain⟨b,off,e,hb,r,u⟩:=h.rd j z l;exact⟨b,off,e,bu hb p.st.size,(p.st.cell (p:=⟨b,off+j,none⟩) hb).trans r,u⟩,h.len⟩
def Bs.get(h:Bs w A n zs){k:Nat}(j:k<n):∃b off z,A=some ⟨b,off,none⟩/\Old b w/\w.cell? (b,off+k)=some (.int .u8 z)/\0<=z/\z<256/\Hx (zs[k]?=some z):=by
 have e:zs[k]?=some (zs[k]'(by rw[<-h.len];exact j)):=bc _;obtain⟨b,off,rfl,hb,l,r,u⟩:=h.rd k _ e;exact⟨b,off,_,rfl,⟨hb⟩,l,r,u,ae e⟩
theorem Bs.drop{b off:Nat}(h:Bs w (some ⟨b,off,none⟩) n zs):Bs w (some ⟨b,off+k,none⟩) (n-k) (zs.drop k):=by
 refine⟨λj z l=>?_,by rw[h.len,dZ]⟩;rw[ff]at l;obtain⟨C,r,e,hb,u,y⟩:=h.rd (k+j) z l;cases e;exact⟨b,off+k,rfl,hb,by rw[nl];exact u,y⟩
theorem Bs.take(h:Bs w A n zs)(e:k<=n):Bs w A k (zs.take k):=by
 refine⟨λj z b=>?_,by rw[bB,<-h.len,dt e]⟩;rw[eY]at b
 split at b
 .exact h.rd j z b
 .cases b
theorem Bs.nil:Bs w A 0 []:=⟨λj z b=>by simp at b,rfl⟩
def Bs.all(h:Bs w A n zs):∀z∈zs,0<=z/\z<256:=λz b=>by
 obtain⟨j,e⟩:=eA b;obtain⟨_,_,_,_,_,l⟩:=h.rd j z e;exact l
def num(zs:av):Int:=zs.foldl (λn z=>n*256+z) 0
def N8(zs:av)(z:Int):num (zs++[z])=num zs*256+z:=by simp[num]
def Bv:∀(zs:av) (n:Int) (a:Nat),0<=n->n<256^a->(∀z∈zs,0<=z/\z<256)->0<=zs.foldl (λn z=>n*256+z) n/\zs.foldl (λn z=>n*256+z) n<256^(a+zs.length)
 |[],n,a,b,e,_=>⟨b,e⟩
 |z::t,n,a,b,e,h=>by
  have l:=h z cm;have:=Bv t (n*256+z) (a+1) om (by rw[B6];omega) λx j=>h x (dl _ j);rw[kl,dm,show a+(t.length+1)=a+1+t.length from om];exact this
def qh{zs:av}(h:∀z∈zs,0<=z/\z<256):0<=num zs/\num zs<256^zs.length:=by
 have:=Bv zs 0 0 (dM _) ak h;rwa[bX]at this
def R5(e:0<=x)(l:x<72057594037927936)(j:0<=z)(r:z<256):bits .or .u64 (x*256) z=x*256+z:=by
 have b:(2:Int)^8=256:=by decide
 have:=Fr x z 8 e (by rw[b];omega) j (by rw[b];omega) om;rwa[b]at this
def R6{m:Nat}(h:m<=7):(256:Int)^m<=72057594037927936:=by
 have b:=Nat.pow_le_pow_right (n:=256) ak h;have e:(256:Nat)^7=72057594037927936:=by decide
 rw[e]at b;have j:(256:Int)^m=((256^m:Nat):Int):=by rw[rW];rfl
 rw[j];exact Int.ofNat_le.2 b
def sY(b o n c k:Nat)(l:k<=n)(r:n<=c):
  ∃j,(∀w,(Instr.slice 22 (.slice (some ⟨b,o,none⟩) n c) (some (.int .i64 (k:Int))) none none).run prog w=.ok (.slice j (n-k) (c-k)) w)/\(k<n->j=some ⟨b,o+k,none⟩):=by
 have hs:∀w,(sizeOf (prog.elem 22)).run prog w=.ok 1 w:=λw=>by
  obtain⟨i,hi,e⟩:=bD.1 (show(prog.info? (prog.elem 22)).map (·.size)=some 1 from by kernel_rfl);simp[sizeOf,typeInfo,hi,e]
 refine⟨if c=k then some ⟨b,o,none⟩else(⟨b,o,none⟩:Addr).add k,λw=>?_,λh=>?_⟩
 .rw[dk w 22 (some ⟨b,o,none⟩) n c aq .i64 k om om,hs];simp[Result.andThen,sliced]
 .rw[ag om,bQ]
def getM(k:Nat)(L:av)(sh:Bool):Int×List Int×Bool:=if sh=true\/k<1\/8<k\/L<k then(0,L,true)else(num (L.take k),L.drop k,false)
structure vA(p w:World)(g:Nat)(L:List Int)(sh:Bool):Prop where
 prev:aj w p
 bx:∃A c,aB w g 124 #[.slice A L c,.bool sh]/\Bs p A L.length L/\L.length<=c
 hg:p<=g
structure Kg(g:Nat)(w w':World):Prop where
 size:w.1.size<=w'.1.size
 keep:∀b,b<w.1.size->b≠g->w'.heap[b]?=w.heap[b]?
 base:Below 0 w w'
def Kg.of[k:aF w w']:Kg g w w':=⟨k.st.size,λb hb _=>k.st.block b hb,k.st.mono (aT _)⟩
def Kg.ax(h:Kg g w w')(i:Nat)(v:Value):Kg g w (w'.setCell (g,i) v):=
 ⟨by have:=h.size;simpa using this,λb hb e=>by rw[bm w' ⟨g,i,none⟩ v b e];exact h.keep b hb e,h.base.setCell (p:=⟨g,i,none⟩) (aT _) _⟩
def vA.at(h:vA p w g L sh)[k:aF w w']:vA p w' g L sh:=by
 obtain⟨A,c,b,e⟩:=h.bx;exact⟨⟨dW h.prev.st k.st⟩,⟨A,c,b.at,e⟩,h.hg⟩
def VU(p:ay)(g:Nat)(w:ay)(v:Int)(L:av)(sh:Bool)(e:Ending)(w':ay):Prop:=e=.returned (.int .u64 v)/\Hx (vA p w' g L sh)/\Hx (Kg g w w')
def DS(h:Hx (vA p w g L sh)){k:Nat}(hk:k<100)(hL:L.length<=100000){v:Int}{sh':Bool}(N:Hx (getM k L sh=(v,L',sh'))):() 46 #[.pointer g,k] w (VU p g w v L' sh'):=by
 obtain⟨CB,CP,FB⟩:=ha;obtain⟨A,c,r,bs,O⟩:=h.o.bx;have P:Bx w g 124 #[.slice A L c,.bool sh]:=⟨r⟩;have p9:=h.o.prev;clear r;have hg:=N.o;unfold getM at hg
 go_in
 by_cases hb:sh=true\/k<1\/8<k\/L<k
 .rw[ah hb]at hg;obtain⟨rfl,rfl,rfl⟩:0=v/\L=L'/\true=sh':=by simpa using hg
  clear hg N;have fin:∀u:World,aj u w->vA p (u.setCell (g,1) (.bool true)) g L true/\Kg g w (u.setCell (g,1) (.bool true)):=λu _=>
   ⟨⟨⟨(a7 p u).setCell (p:=⟨g,1,none⟩) h.o.hg _⟩,⟨A,c,P.al.at.ax 1 _,bs,O⟩,h.o.hg⟩,Kg.of.ax 1 _⟩
  have l:=ae fin;clear fin;cases hs:sh with
  |true=>
   clear hb;subst hs
   go_wp2_with fail
   go_ret;obtain⟨f1,f2⟩:=l.o w ⟨aY _ _⟩;exact⟨rfl,ae f1,ae f2⟩
  |false=>
   subst hs;by_cases F:k<1
   .have Q:decide ((k:Int)<1)=true:=by simp;omega
    clear hb
    go_wp2_with fail
    go_ret;obtain⟨f1,f2⟩:=l.o w ⟨aY _ _⟩;exact⟨rfl,ae f1,ae f2⟩
   .have Q:decide ((k:Int)<1)=false:=by simp;omega
    by_cases G:8<k
    .have R:decide ((8:Int)<k)=true:=by simp;omega
     clear hb F
     go_wp2_with fail
     go_ret;obtain⟨f1,f2⟩:=l.o w ⟨aY _ _⟩;exact⟨rfl,ae f1,ae f2⟩
    .have R:decide ((8:Int)<k)=false:=by simp;omega
     have t3:decide (L<k)=true:=by
      rcases hb with h|h|h|h
      .cases h
      .exact absurd h F
      .exact absurd h G
      .simpa using h
     clear hb F G
     go_wp2_with fail
     go_ret;obtain⟨f1,f2⟩:=l.o w ⟨aY _ _⟩;exact⟨rfl,ae f1,ae f2⟩
 .rw[ag hb]at hg;obtain⟨rfl,rfl,rfl⟩:num (L.take k)=v/\L.drop k=L'/\false=sh':=by simpa using hg
  simp only[not_or]at hb;obtain⟨S,s2,s3,s4⟩:=hb;obtain rfl:sh=false:=by simpa using S
  have Q:decide ((k:Int)<1)=false:=by simp;omega
  have R:decide ((8:Int)<k)=false:=by simp;omega
  have t3:decide ((L.length:Int)<k)=false:=by simp;omega
  obtain⟨b,off,z,rfl,ob,T,z0,z1,I⟩:=bs.get (k:=0) om;clear hg S T z0 z1 I;have y:=bs.all
  go_upto_region 6 with fail
  go_loop [5,39] (λt i=>∃j:Nat,j<=k/\i=.int .i64 j/\t=.int .u64 (num (L.take j))) (λ_ i=>k-(intOf i).toNat)
  .exact⟨0,aT _,rfl,rfl⟩
  ·
   obtain⟨j,hj,rfl,rfl⟩:=hrel;by_cases U:j<k
   .obtain⟨G,o2,z,e,V,T,z0,z1,I⟩:=bs.get (k:=j) om;cases e;have E:=qh (zs:=L.take j) λz X=>y z (cG X);have hN:Hx (num (L.take (j+1))=num (L.take j)*256+z):=ae (by rw[take_at I.o,N8]);obtain⟨x,J⟩:=lh (num (L.take j));rw[J]at E⊢;have Y:=ae J;clear J;have C:x<72057594037927936:=by
     have Z:=E.2;rw[bB]at Z;have h2:=R6 (m:=min j L.length) om;omega
    have w1:IntKind.u64.wrap (x*256)=x*256:=by rw[bg];omega
    have w2:bits .or .u64 (x*256) z=x*256+z:=R5 E.1 C z0 z1;clear E C
    go_wp2_with fail
    exact⟨⟨j+1,om,by go_num,by rw[hN.o,Y.o]⟩,by simp[intOf];omega⟩
   .obtain rfl:j=k:=om;obtain⟨A',hA,D⟩:=sY b off L.length c j om O;have K:=ae D;clear D
    go_wp2_with fail
    go_ret;refine⟨rfl,ae ⟨⟨(a7 p w).setCell (p:=⟨g,0,none⟩) h.o.hg _⟩,⟨A',c-j,by rw[dZ];exact aB.ax P.al 0 _,?_,by rw[dZ];omega⟩,h.o.hg⟩,ae (Kg.of.ax 0 _)⟩;rw[dZ];by_cases M:j<L
    .rw[K.o M];exact bs.drop
    .rw[show L.drop j=[]from ey om,show L.length-j=0 from om];exact Bs.nil
end
def ip:Nat->List Int->Int
 |_,[]=>0
 |i,z::t=>((i:Int)+1)*z+ip (i+1) t
section
variable{w:World}{n:Nat}
def oo(b:0<=x)(e:x<4294967296):IntKind.u32.wrap x=x:=by
 show x%4294967296=x
 omega
def Lh[b:Bs w A n zs](G:n<=4000):() 92 #[(A,n,c)] w (aD w (.int .u32 (ip 0 zs))):=by
 have I:=@bL;have B:Hx (n=zs):=b.len
 go_in
 go_wp2_with fail
 go_loopw [3,8] (λs i wr=>∃(j:Nat) (S:Int),j<=n/\i=.int .i64 j/\s=.int .u32 S/\0<=S/\S<=(j:Int)*1020000/\Hx (S+ip j (zs.drop j)=ip 0 zs)/\aj wr w) (λ_ i _=>n-(intOf i).toNat)
 .exact⟨0,0,aT _,rfl,rfl,ak,ak,ae aG,aK⟩
 ·
  obtain⟨j,S,J,rfl,rfl,K,L,u,hp⟩:=hrel;by_cases l:j<n
  .obtain⟨M,o1,z,rfl,C,N,z0,z1,D⟩:=b.get l;obtain⟨q,hq⟩:=lh (((j:Int)+1)*z);have q0:0<=q:=by rw[<-hq];exact iC om z0
   have O:q<=1020000:=by
    have y:=kn (show(j:Int)+1<=4000 by omega) (show z<=255 by omega) z0 ak;rw[hq]at y;exact y
   have m:Hx ((S+q)+ip (j+1) (zs.drop (j+1))=ip 0 zs):=ae (by
    obtain⟨E,F⟩:=a5.1 D.o;rw[<-u.o,ei E,F,ip,hq,Int.add_assoc])
   have k1:IntKind.u32.wrap ((j:Int)+1)=(j:Int)+1:=oo om om;have k2:IntKind.u32.wrap z=z:=oo om om;have k3:IntKind.u32.wrap (((j:Int)+1)*z)=q:=by rw[hq];exact oo (by omega) (by omega)
   have k4:IntKind.u32.wrap (S+q)=S+q:=oo om om;have e:S+q<=((j:Int)+1)*1020000:=by omega
   have r:=ae e;clear hq e
   go_wp2_with fail
   go_roundw
   .exact⟨j+1,S+q,om,by go_num,rfl,om,by have:=r.o;rwa[fH],m,aK⟩
   .simp[intOf];omega
  .obtain rfl:j=n:=om;have hs:S=ip 0 zs:=by have:=u.o;rw[ey (by rw[<-B.o];exact an _)]at this;simpa[ip]using this
   subst hs
   go_wp2_with fail
   go_ret;exact bq
def abt(L:av)(sh:Bool):Int:=if sh=true then 16 else if L=[]then 0 else 10
def Li{L:av}{sh:Bool}(h:Hx (vA p w g L sh)):() 49 #[.pointer g] w (aD w (abt L sh:Int)):=by
 have l:=@aa;obtain⟨A,c,e,-,-⟩:=h.o.bx;have j:Bx w g 124 #[.slice A L c,.bool sh]:=⟨e⟩;clear e;cases sh
 case true=>
  go_in
  go_wp2_with fail
  go_ret;exact bq
 case false=>
  cases L with
  |nil=>
   go_in
   go_wp2_with fail
   go_ret;exact bq
  |cons x t=>
   obtain⟨n,b⟩:=lh ((x::t).length);have m:0<n:=by rw[<-b];simp
   rw[b]at j;clear b
   go_in
   go_wp2_with fail
   go_ret;exact bq
end
def bk(k:Nat):Option (List Int)->Int×Option (List Int)
 |none=>(0,none)
 |some L=>if L.length<k then(0,none)else(num (L.take k),some (L.drop k))
def cH:Nat->Option (List Int)->List Int×Option (List Int)
 |0,o=>([],o)
 |c+1,o=>if(bk 2 o).2=none then([],none)else if(cH c (bk 2 o).2).2=none then([],none)else((bk 2 o).1::(cH c (bk 2 o).2).1,(cH c (bk 2 o).2).2)
def lH(o:Option (List Int)):List Int×Option (List Int):=cH (bk 1 o).1.toNat (bk 1 o).2
def iL:Nat->Option (List Int)->List Int×Option (List Int)
 |0,o=>([],o)
 |_+1,none=>([],none)
 |c+1,some L=>((bk 2 (some L)).1::(iL c (bk 2 (some L)).2).1,(iL c (bk 2 (some L)).2).2)
def iW:Nat->Option (List Int)->List (List Int)×Option (List Int)
 |0,o=>([],o)
 |_+1,none=>([],none)
 |c+1,some L=>((lH (some L)).1::(iW c (lH (some L)).2).1,(iW c (lH (some L)).2).2)
abbrev fa:=Option (List Int)
structure NdP where
 k0:Int×fa
 k1:Int×fa
 f1:Int×fa
 f2:Int×fa
 f3:Int×fa
 f4:Int×fa
 f5:Int×fa
 s:List Int×fa
 ci:Int×fa
 i:List Int×fa
 cp:Int×fa
 p:List (List Int)×fa
def sZ(o:fa):NdP:=
 let k0:=bk 1 o
 let k1:=bk 8 k0.2
 let f1:=bk 2 k1.2
 let f2:=bk 2 f1.2
 let f3:=bk 2 f2.2
 let f4:=bk 2 f3.2
 let f5:=bk 2 f4.2
 let s:=lH f5.2
 let ci:=bk 1 s.2
 let i:=iL ci.1.toNat ci.2
 let cp:=bk 1 i.2
 ⟨k0,k1,f1,f2,f3,f4,f5,s,ci,i,cp,iW cp.1.toNat cp.2⟩
def yW(o:fa):dV×fa:=(⟨⟨(sZ o).k0.1,IntKind.i64.wrap (sZ o).k1.1,(sZ o).f1.1,(sZ o).f2.1,(sZ o).f3.1,(sZ o).f4.1,(sZ o).f5.1,(sZ o).s.1⟩,(sZ o).i.1,(sZ o).p.1⟩,(sZ o).p.2)
def oq:Nat->fa->List dV×fa
 |0,o=>([],o)
 |_+1,none=>([],none)
 |c+1,some L=>((yW (some L)).1::(oq c (yW (some L)).2).1,(oq c (yW (some L)).2).2)
def bF:Nat->Int->List Int
 |0,_=>[]
 |k+1,n=>n/256^k%256::bF k n
def jX(S:av):List Int:=bF 1 S.length++S.flatMap (bF 2)
def mg(v:dV):List Int:=bF 1 v.o.kd++bF 8 (IntKind.u64.wrap v.o.k)++bF 2 v.o.wd++bF 2 v.o.st++bF 2 v.o.sd++bF 2 v.o.fr++bF 2 v.o.tt++jX v.o.S++bF 1 v.ins.length++v.ins.flatMap (bF 2)++bF 1 v.P.length++v.P.flatMap jX
def ka(N:aU):List Int:=bF 4 1096042545++jX N.dd++bF 2 N.nodes.length++N.nodes.flatMap mg
structure DcP where
 m4:Int×fa
 dd:List Int×fa
 c:Int×fa
 nd:List dV×fa
def ot(L:av):DcP:=
 let m4:=bk 4 (some L)
 let dd:=lH m4.2
 let c:=bk 2 dd.2
 ⟨m4,dd,c,oq c.1.toNat c.2⟩
def rA(L:av):aU:=⟨(ot L).dd.1,(ot L).nd.1⟩
section
variable{k:Nat}{L:List Int}{o:fa}{n a:Int}
def t1:∀(zs:av) (n:Int),zs.foldl (λn z=>n*256+z) n=n*256^zs.length+num zs
 |[],n=>by simp[num]
 |z::t,n=>by
  have b:=t1 t (n*256+z);have e:=t1 t (0*256+z);unfold num;rw[kl,kl,b,e,dm,Int.pow_succ',jv,jv,<-iY];omega
def N9(z:Int)(t:av):num (z::t)=z*256^t.length+num t:=by
 have:=t1 t (0*256+z);unfold num at this⊢;rw[kl,this,Um,J7]
def iq(m:Nat):(0:Int)<256^m:=Ca ak
def ir:∀(k:Nat) (n:Int),(bF k n).length=k
 |0,_=>rfl
 |k+1,n=>by rw[bF,dm,ir k n]
def t2(a x:Int)(m:Nat):∀k,k<=m->bF k (a*256^m+x)=bF k x
 |0,_=>rfl
 |k+1,h=>by
  rw[bF,bF,t2 a x m k om];obtain⟨j,rfl⟩:∃j,m=k+(j+1):=⟨m-k-1,om⟩;have e:a*(256:Int)^(k+(j+1))=256^k*(a*256^j*256):=by
   rw[Kt,B6,iB (256^k),<-iY,<-iY];exact iB _ _
  rw[e,Int.mul_add_ediv_left _ _ (Int.ne_of_gt (iq k)),Kr,Ud]
def t5:∀zs:List Int,(∀z∈zs,0<=z/\z<256)->bF zs.length (num zs)=zs
 |[],_=>rfl
 |z::t,h=>by
  have e:=h z cm;have ht:∀y∈t,0<=y/\y<256:=λy b=>h y (dl _ b);have hb:=qh ht;rw[dm,bF,N9,t2 _ _ _ _ (an _),t5 t ht,iB z,Int.mul_add_ediv_left _ _ (Int.ne_of_gt (iq _)),J6 hb.1 hb.2,Kq];rw[show z%256=z from om]
abbrev iy(L:List Int):Prop:=∀z∈L,0<=z/\z<256
def ee(h:iy L)(b:(bk k (some L)).2=some L'):L=bF k (bk k (some L)).1++L'/\iy L'/\0<=(bk k (some L)).1/\(bk k (some L)).1<256^k:=by
 unfold bk at b⊢;dsimp only at b⊢
 split at b
 .cases b
 .rename_i u;rw[ag u];have e:=cn b;subst e;have ht:iy (L.take k):=λz j=>h z (cG j);have l:=t5 (L.take k) ht;have r:(L.take k).length=k:=by rw[bB];omega
  rw[r]at l;have hb:=qh ht;rw[r]at hb;exact⟨by rw[l,de],λz j=>h z (dC j),hb⟩
def fU(h:(bk k o).2=some L'):∃L,o=some L:=by
 cases o with
 |none=>cases h
 |some L=>exact⟨L,rfl⟩
def uR:∀(c:Nat) {L L':av},iy L->(cH c (some L)).2=some L'->L=(cH c (some L)).1.flatMap (bF 2)++L'/\iy L'/\(cH c (some L)).1.length=c
 |0,L,L',h,e=>by
  have e:=cn e;subst e;exact⟨by simp[cH],h,rfl⟩
 |c+1,L,L',h,e=>by
  unfold cH at e⊢
  split at e
  .cases e
  .rename_i j;rw[ag j]
   split at e
   .cases e
   .rename_i l;rw[ag l];obtain⟨D,b⟩:=Option.ne_none_iff_exists'.1 j;obtain⟨r,u,_⟩:=ee h b;rw[b]at e⊢;obtain⟨y,B,C⟩:=uR c u e;refine⟨?_,B,by rw[dm,C]⟩;dsimp only;rw[g8,dg,<-y];exact r
def s0(c:Nat):(cH c none).2=none:=by
 cases c<;>simp[cH,bk]
def Oa:(lH none).2=none:=s0 _
def yX(h:iy L)(e:(lH (some L)).2=some L'):L=jX (lH (some L)).1++L'/\iy L'/\(lH (some L)).1.length<256:=by
 unfold lH at e⊢;cases b:(bk 1 (some L)).2 with
 |none=>rw[b,s0]at e;cases e
 |some j=>
  rw[b]at e;obtain⟨l,r,D,E⟩:=ee h b;obtain⟨u,y,B⟩:=uR _ r e;have C:((cH (bk 1 (some L)).1.toNat (some j)).1.length:Int)=(bk 1 (some L)).1:=by rw[B];omega
  refine⟨?_,y,om⟩;rw[jX,C,dg,<-u];exact l
def Bw:∀(c:Nat) {L L':av},iy L->(iL c (some L)).2=some L'->L=(iL c (some L)).1.flatMap (bF 2)++L'/\iy L'/\(iL c (some L)).1.length=c
 |0,L,L',h,e=>by
  have e:=cn e;subst e;exact⟨by simp[iL],h,rfl⟩
 |c+1,L,L',h,e=>by
  unfold iL at e⊢;dsimp only at e⊢;cases b:(bk 2 (some L)).2 with
  |none=>rw[b]at e;cases c<;>cases e
  |some B=>
   obtain⟨j,l,_⟩:=ee h b;rw[b]at e;obtain⟨r,u,y⟩:=Bw c l e;refine⟨?_,u,by rw[dm,y]⟩;rw[g8,dg,<-r];exact j
def By:∀(c:Nat) {L L':av},iy L->(iW c (some L)).2=some L'->L=(iW c (some L)).1.flatMap jX++L'/\iy L'/\(iW c (some L)).1.length=c/\∀s∈(iW c (some L)).1,s.length<256
 |0,L,L',h,e=>by
  have e:=cn e;subst e;exact⟨by simp[iW],h,rfl,λs hs=>by simp[iW]at hs⟩
 |c+1,L,L',h,e=>by
  unfold iW at e⊢;dsimp only at e⊢;cases b:(lH (some L)).2 with
  |none=>rw[b]at e;cases c<;>cases e
  |some D=>
   obtain⟨j,l,r⟩:=yX h b;rw[b]at e;obtain⟨u,y,B,C⟩:=By c l e;refine⟨?_,y,by rw[dm,B],λs hs=>?_⟩
   .rw[g8,dg,<-u];exact j
   .rcases bT.1 hs with rfl|hs
    .exact r
    .exact C s hs
def Jl(h:(iL c o).2=some L'):∃L,o=some L:=by
 cases o with
 |none=>cases c<;>cases h
 |some L=>exact⟨L,rfl⟩
def Jm(h:(iW c o).2=some L'):∃L,o=some L:=by
 cases o with
 |none=>cases c<;>cases h
 |some L=>exact⟨L,rfl⟩
def Bz(h:(lH o).2=some L'):∃L,o=some L:=by
 cases o with
 |none=>rw[Oa]at h;cases h
 |some L=>exact⟨L,rfl⟩
def R7{x:Int}(b:0<=x)(e:x<18446744073709551616):IntKind.u64.wrap (IntKind.i64.wrap x)=x:=by
 rw[bg,aV];omega
structure Gp(v:dV):Prop where
 s:v.o.S.length<256
 i:v.ins.length<256
 p:v.P.length<256
 ps:∀s∈v.P,s.length<256
def R8(h:iy L)(e:(yW (some L)).2=some L'):L=mg (yW (some L)).1++L'/\iy L'/\Gp (yW (some L)).1:=by
 have e:(sZ (some L)).p.2=some L':=e;obtain⟨P,hP⟩:=lh (sZ (some L));have O:P.k0=bk 1 (some L):=by rw[<-hP];rfl
 have T:P.k1=bk 8 P.k0.2:=by rw[<-hP];rfl
 have a3:P.f1=bk 2 P.k1.2:=by rw[<-hP];rfl
 have a4:P.f2=bk 2 P.f1.2:=by rw[<-hP];rfl
 have U:P.f3=bk 2 P.f2.2:=by rw[<-hP];rfl
 have V:P.f4=bk 2 P.f3.2:=by rw[<-hP];rfl
 have X:P.f5=bk 2 P.f4.2:=by rw[<-hP];rfl
 have Y:P.s=lH P.f5.2:=by rw[<-hP];rfl
 have Z:P.ci=bk 1 P.s.2:=by rw[<-hP];rfl
 have y:P.i=iL P.ci.1.toNat P.ci.2:=by rw[<-hP];rfl
 have B:P.cp=bk 1 P.i.2:=by rw[<-hP];rfl
 have C:P.p=iW P.cp.1.toNat P.cp.2:=by rw[<-hP];rfl
 unfold yW;rw[hP]at e⊢;rw[C]at e;obtain⟨L11,b⟩:=Jm e;rw[B]at b;obtain⟨L10,j⟩:=fU b;rw[y]at j;obtain⟨L9,D⟩:=Jl j;rw[Z]at D;obtain⟨L8,E⟩:=fU D;rw[Y]at E;obtain⟨L7,F⟩:=Bz E;rw[X]at F;obtain⟨L6,G⟩:=fU F;rw[V]at G;obtain⟨L5,I⟩:=fU G;rw[U]at I;obtain⟨L4,J⟩:=fU I;rw[a4]at J;obtain⟨L3,K⟩:=fU J;rw[a3]at K;obtain⟨L2,M⟩:=fU K;rw[T]at M;obtain⟨L1,Q⟩:=fU M;rw[O]at Q;rw[<-O]at Q;have t1:=ee h (O▸Q);rw[<-O]at t1;rw[Q]at T M;have N:=ee t1.2.1 M;rw[<-T]at N M;rw[M]at a3 K;have t3:=ee N.2.1 K;rw[<-a3]at t3 K;rw[K]at a4 J;have t4:=ee t3.2.1 J;rw[<-a4]at t4 J;rw[J]at U I;have t5:=ee t4.2.1 I;rw[<-U]at t5 I;rw[I]at V G;have t6:=ee t5.2.1 G;rw[<-V]at t6 G;rw[G]at X F;have t7:=ee t6.2.1 F;rw[<-X]at t7 F;rw[F]at Y E;have R:=yX t7.2.1 E;rw[<-Y]at R E;rw[E]at Z D;have S:=ee R.2.1 D;rw[<-Z]at S D;rw[D]at y j;have r:=Bw _ S.2.1 j;rw[<-y]at r j;rw[j]at B b;have u:=ee r.2.1 b;rw[<-B]at u b;rw[b]at C e;have l:=By _ u.2.1 e;rw[<-C]at l;have k2:IntKind.u64.wrap (IntKind.i64.wrap P.k1.1)=P.k1.1:=R7 N.2.2.1 (by
  have:=N.2.2.2;have e:(256:Int)^8=18446744073709551616:=by decide
  rw[e]at this;exact this)
 have l1:((P.i.1.length:Nat):Int)=P.ci.1:=by rw[r.2.2];have:=S.2.2.1;omega
 have l2:((P.p.1.length:Nat):Int)=P.cp.1:=by rw[l.2.2.1];have:=u.2.2.1;omega
 refine⟨?_,l.2.1,R.2.2,by show P.i.1.length<256;omega,by show P.p.1.length<256;omega,l.2.2.2⟩;unfold mg;dsimp only;rw[k2,l1,l2];simp only[dg];rw[<-l.1,<-u.1,<-r.1,<-S.1,<-R.1,<-t7.1,<-t6.1,<-t5.1,<-t4.1,<-t3.1,<-N.1,<-t1.1]
def Gq:∀(c:Nat) {L L':av},iy L->(oq c (some L)).2=some L'->L=(oq c (some L)).1.flatMap mg++L'/\iy L'/\(oq c (some L)).1.length=c/\∀v∈(oq c (some L)).1,Gp v
 |0,L,L',h,e=>by
  have e:=cn e;subst e;exact⟨by simp[oq],h,rfl,λs hs=>by simp[oq]at hs⟩
 |c+1,L,L',h,e=>by
  unfold oq at e⊢;dsimp only at e⊢;cases b:(yW (some L)).2 with
  |none=>rw[b]at e;cases c<;>cases e
  |some D=>
   obtain⟨j,l,r⟩:=R8 h b;rw[b]at e;obtain⟨u,y,B,C⟩:=Gq c l e;refine⟨?_,y,by rw[dm,B],λs hs=>?_⟩
   .rw[g8,dg,<-u];exact j
   .rcases bT.1 hs with rfl|hs
    .exact r
    .exact C s hs
def Ob(h:(oq c o).2=some L'):∃L,o=some L:=by
 cases o with
 |none=>cases c<;>cases h
 |some L=>exact⟨L,rfl⟩
def Lj(h:iy L)(hm:(ot L).m4.1=1096042545)(j:(ot L).nd.2=some []):ka (rA L)=L/\(rA L).dd.length<256/\(rA L).nodes.length<65536/\∀v∈(rA L).nodes,Gp v:=by
 unfold rA;obtain⟨P,hP⟩:=lh (ot L);have y:P.m4=bk 4 (some L):=by rw[<-hP];rfl
 have r:P.dd=lH P.m4.2:=by rw[<-hP];rfl
 have a3:P.c=bk 2 P.dd.2:=by rw[<-hP];rfl
 have a4:P.nd=oq P.c.1.toNat P.c.2:=by rw[<-hP];rfl
 rw[hP]at hm j⊢;rw[a4]at j;obtain⟨D,b⟩:=Ob j;rw[a3]at b;obtain⟨E,e⟩:=fU b;rw[r]at e;obtain⟨F,B⟩:=Bz e;have u:=ee h (y▸B);rw[<-y]at u;rw[B]at r e;have l:=yX u.2.1 e;rw[<-r]at l e;rw[e]at a3 b;have t3:=ee l.2.1 b;rw[<-a3]at t3 b;rw[b]at a4 j;have t4:=Gq _ t3.2.1 j;rw[<-a4]at t4;have l1:((P.nd.1.length:Nat):Int)=P.c.1:=by rw[t4.2.2.1];have:=t3.2.2.1;omega
 refine⟨?_,l.2.2,by show P.nd.1.length<65536;omega,t4.2.2.2⟩;unfold ka;dsimp only;have C:=t4.1;rw[fG]at C;rw[l1,<-hm];simp only[dg];rw[<-C,<-t3.1,<-l.1,<-u.1]
end
section
variable{u:World}{b q:Nat}{o':fa}{xs:List Int}{F':Nat->Prop}{A':Option Addr}{y:Int}
def iM(p w:ay)(g:Nat):fa->Prop
 |some L=>L.length<=100000/\vA p w g L false
 |none=>∃L:List Int,L.length<=100000/\vA p w g L true
abbrev Ke(F:Nat->Prop)(w w':World):Prop:=Kf F F w w'
section
variable{w:World}{k n B:Nat}{o:fa}{L:List Int}{sh:Bool}{F:Nat->Prop}{E:TypeId}
def Kg.ke(h:Kg g w w'):Ke (λb=>b=g) w w':=⟨h.base,h.size,λb hb e=>h.keep b hb e,λ_ hb=>.inl hb⟩
def vA.kf(h:vA p w g L sh)(e:Kf F F' w w')(hF:∀b,F b->p.1.size<=b)(hg:¬F g):vA p w' g L sh:=by
 obtain⟨A,c,j,m⟩:=h.bx;have l:=h.prev;exact⟨e.prev hF,⟨A,c,e.al j hg,m⟩,h.hg⟩
def iM.kf(h:iM p w g o)(e:Kf F F' w w')(hF:∀b,F b->p.1.size<=b)(hg:¬F g):iM p w' g o:=by
 cases o with
 |some L=>exact⟨h.1,h.2.kf e hF hg⟩
 |none=>obtain⟨L,j,l⟩:=h;exact⟨L,j,l.kf e hF hg⟩
def iM.at(h:iM p w g o)[aF w w']:iM p w' g o:=by
 cases o with
 |some L=>exact⟨h.1,h.2.at⟩
 |none=>obtain⟨L,e,j⟩:=h;exact⟨L,e,j.at⟩
theorem iM.prev(h:iM p w g o):aj w p:=by
 cases o with
 |some L=>exact h.2.prev
 |none=>obtain⟨L,j,e⟩:=h;exact e.prev
def iM.hg(h:iM p w g o):p<=g/\g<w:=by
 cases o with
 |some L=>obtain⟨A,c,e,_⟩:=h.2.bx;exact⟨h.2.hg,e.lt⟩
 |none=>obtain⟨L,e,j⟩:=h;obtain⟨A,c,l,_⟩:=j.bx;exact⟨j.hg,l.lt⟩
def iM.flag(h:iM p w g o):∃v cs,Bx w g 124 #[v,.bool cs]/\cs=o.isNone:=by
 cases o with
 |some L=>obtain⟨A,c,e,_⟩:=h.2.bx;exact⟨_,_,⟨e⟩,rfl⟩
 |none=>obtain⟨L,e,j⟩:=h;obtain⟨A,c,l,_⟩:=j.bx;exact⟨_,_,⟨l⟩,rfl⟩
def iM.R9(h:iM p w g (some L)):iy L:=by
 obtain⟨A,c,j,e,_⟩:=h.2.bx;exact e.all
def yY(h:iM p w g o)(k:Nat):0<=(bk k o).1/\(bk k o).1<256^k:=by
 cases o with
 |none=>exact⟨dM _,iq k⟩
 |some L=>
  unfold bk;dsimp only
  split
  .exact⟨dM _,iq k⟩
  .rename_i j;have hb:=qh (zs:=L.take k) λz e=>h.R9 z (cG e);rw[bB,dt om]at hb;exact hb
def aad(p:ay)(g:Nat)(w:ay)(v:Int)(o:fa)(e:Ending)(w':ay):Prop:=e=.returned (.int .u64 v)/\Hx (iM p w' g o)/\Hx (Ke (λb=>b=g) w w')/\aj w' p
def eF(h:Hx (iM p w g o)){k:Nat}(G:y=(k:Int))(J:1<=k)(K:k<=8){v:Int}(I:Hx (bk k o=(v,o'))):() 46 #[.pointer g,y] w (aad p g w v o'):=by
 subst G;have hg:=I.o;cases o with
 |none=>
  obtain⟨L,l,C⟩:=h.o;injection hg with m r
  subst m r;refine(DS (k:=k) C om l (v:=0) (L':=L) (sh':=true) (ae (by unfold getM;rw[ah (.inl rfl)]))).mono ?_;rintro e w' ⟨rfl,j,z⟩;exact⟨rfl,ae ⟨L,l,j⟩,ae z.o.ke,j.o.prev⟩
 |some L=>
  obtain⟨l,C⟩:=h.o;unfold bk at hg;dsimp only at hg
  split at hg
  .rename_i D;injection hg with m r
   subst m r;refine(DS (k:=k) C om l (v:=0) (L':=L) (sh':=true) (ae (by unfold getM;rw[ah (.inr (.inr (.inr D)))]))).mono ?_;rintro e w' ⟨rfl,j,z⟩;exact⟨rfl,ae ⟨L,l,j⟩,ae z.o.ke,j.o.prev⟩
  .rename_i D;injection hg with m r
   subst m r;refine(DS (k:=k) C om l (v:=num (L.take k)) (L':=L.drop k) (sh':=false) (ae (by unfold getM;rw[ag (by rintro(h|h|h|h)<;>first|(exact absurd h ak)|omega)]))).mono ?_;rintro e w' ⟨rfl,j,z⟩;exact⟨rfl,ae ⟨by rw[dZ];omega,j⟩,ae z.o.ke,j.o.prev⟩
def Kf.DT(h:Ke F w u)(l:cP A A' u w')(m:∀j,A=some j->w.1.size<=j.block):Ke F w w':=
 ⟨(h.base.trans (l.base.mono (aT _))),aO h.size l.size,λb hb r=>(l.off b (bu hb h.size) λj e=>by have:=m j e;omega).trans (h.keep b hb r),λb hb=>.inl hb⟩
structure FrA(w w':World)(A:Option Addr)(zs:List Int):Prop where
 rd:Rd w' A zs
 lo:∀b,AF A b->w.1.size<=b
 hi:∀b,AF A b->b<w'.1.size
def aae(p:ay)(g:Nat)(w:ay)(zs:av)(o:fa)(e:Ending)(w':ay):Prop:=∃A c,e=.returned (.slice A zs c)/\FrA w w' A zs/\zs.length<=c/\Hx (iM p w' g o)/\Hx (Ke (λb=>b=g) w w')/\aj w' p
def az.fra(h:az w' w.1.size E A c zs):FrA w w' A zs:=⟨h.rd,λ_ hb=>(h.af hb).1,λ_ hb=>(h.af hb).2.1⟩
def ou(c:Nat)(o:fa):cH (c+1) o=if(bk 2 o).2=none then([],none)else if(cH c (bk 2 o).2).2=none then([],none)else((bk 2 o).1::(cH c (bk 2 o).2).1,(cH c (bk 2 o).2).2):=rfl
def t6(h:Hx (iM p w g o))(hS:Hx (lH o=(xs,o'))):() 47 #[.pointer g] w (aae p g w xs o'):=by
 have CB:=@aa;have hg0:=h.o.hg;have l:=yY h 1;obtain⟨⟨cn,o1⟩,I⟩:=lh (bk 1 o);rw[I]at l;have hs:=hS.o;rw[lH,I]at hs;dsimp only at hs l;obtain⟨c,rfl⟩:=cf l.1;rw[bI]at hs;have hc:c<256:=by
  have m:(256:Int)^1=256:=by decide
  have:=l.2;omega
 have HG:=ae I;have HS:=ae hs;clear I hs l
 go_in
 go_upto_region 3 with(go_at_call 46;refine(eF (k:=1) (y:=1) h rfl ak ak HG).mono ?_;rintro e u1 ⟨rfl,Sa,oT,su⟩)
 have ho1:az u1 w.1.size 3 none 0 []:=az.nil _ _ _;go_loopw [4,3] (λs4 s3 wr=>∃(q r:Nat) (zs:av) (A:cD) (P:Nat) (C:fa),q+r=c/\zs=q/\s4=.int .u64 (r:Int)/\s3=.slice A q P/\Hx (az wr w.1.size 3 A P zs)/\Hx (iM p wr g C)/\Hx (Ke (λb=>b=g) w wr)/\Hx (C=none->zs=[])/\Hx ((if(cH r C).2=none then([],none)else(zs++(cH r C).1,(cH r C).2))=(xs,o'))/\aj wr p) (λs4 _ _=>(intOf s4).toNat)
 ·
  refine⟨0,c,[],none,0,o1,om,rfl,rfl,rfl,ae ho1,Sa,oT,ae (λ_=>rfl),ae ?_,su⟩;rw[<-HS.o];by_cases m:(cH c o1).2=none
  .rw[ah m];have:∀(c:Nat) (o:fa),(cH c o).2=none->(cH c o).1=[]:=λc o X=>by
    cases c with
    |zero=>rfl
    |succ c=>
     rw[ou]at X⊢
     split
     .rfl
     .rename_i h1;rw[ag h1]at X
      split
      .rfl
      .rename_i h2;rw[ag h2]at X;exact absurd X h2
   exact Prod.ext (this c o1 m).symm m.symm
  .rw[ag m];rfl
 ·
  obtain⟨q,r,zs,A,P,C,VV,R,rfl,rfl,Y,HR,Z,HN,HM,hp⟩:=hrel;by_cases hr:r=0
  .subst hr;have hm:=HM.o;have e0:cH 0 C=([],C):=rfl;rw[e0]at hm;dsimp only at hm;have S:xs=zs/\o'=C:=by
    by_cases m:C=none
    .rw[ah m]at hm;injection hm with m1 T
     exact⟨by rw[<-m1,HN.o m],by rw[<-T,m]⟩
    .rw[ag m,fG]at hm;injection hm with m1 T
     exact⟨m1.symm,T.symm⟩
   obtain⟨rfl,rfl⟩:=S;subst R;clear hm e0
   go_wp2_with fail
   go_ret;exact⟨A,P,rfl,Y.o.fra,Y.o.gW,HR,Z,hp⟩
  .obtain⟨G,rfl⟩:∃G,r=G+1:=⟨r-1,om⟩;have l:=yY HR 2;obtain⟨⟨sd,o3⟩,I⟩:=lh (bk 2 C);have hm:=HM.o;rw[ou,I]at hm;rw[I]at l;dsimp only at hm l;have m:(256:Int)^2=65536:=by decide
   rw[m]at l;have w1:IntKind.i64.wrap sd=sd:=by rw[aV];omega
   have t1:decide (0<G+1)=true:=aG;have mZ:=ae I;have J:=ae hm;obtain⟨R1,M⟩:=lg (G+1:Nat);rw[<-M]at t1⊢;have w2:IntKind.u64.wrap ((R1:Int)-1)=(G:Int):=by rw[bg];omega
   have U:=ae M;clear I hm m hr M
   go_upto_region 6 with(go_at_call 46;refine(eF (k:=2) (y:=2) HR rfl ak ak mZ).mono ?_;rintro e u2 ⟨rfl,N,K,q8⟩)
   obtain⟨v3,b3,NZ,V⟩:=N.o.flag;cases o3 with
   |none=>
    subst V;have hm:=J.o;rw[ah rfl,ah rfl]at hm;injection hm with m1 T
    subst m1 T;clear J
    go_wp2_with fail
    go_ret;exact⟨none,0,rfl,⟨λj z hj=>by simp at hj,λb ⟨ad,e9,_⟩=>(by cases e9),λb ⟨ad,e9,_⟩=>(by cases e9)⟩,an _,N,ae (Z.o.trans K),q8⟩
   |some Q=>
    subst V;have hm:=J.o;rw[ag (show¬(some Q:fa)=none from by simp)]at hm;have D:Hx (az u2 w.1.size 3 A P zs):=ae (K.o.own Y λb hb=>by have:=(Y.o.af hb).1;omega);have Ry:Hx ((if(cH G (some Q)).2=none then([],none)else((zs++[sd])++(cH G (some Q)).1,(cH G (some Q)).2))=(xs,o')):=ae (by
     rw[<-hm];by_cases h8:(cH G (some Q)).2=none
     .simp[h8]
     .simp[h8])
    have QH:Hx (w.1.size<=u2.1.size):=aO Z.o.size K.o.size;subst R;clear hm J
    go_wp2_with (at_builtin;refine hG rfl _ _ _ rfl 3 underlying25 aq w.1.size A P zs rfl D sd rfl om QH ?_;intro A3 c3 w3 qm O _)
    go_roundw
    ·
     have hA:=D.o.fresh;have EC:¬AF A g:=λhx=>by have:=(D.o.af hx).1;omega
     exact⟨zs.length+1,G,zs++[sd],A3,c3,some Q,by have:=U.o;omega,aG,rfl,rfl,ae qm,ae (N.o.kf (Kf.hD O) (λb hb=>by have:=(D.o.af hb).1;omega) EC),ae ((Z.o.trans K).DT O hA),ae (λh=>by cases h),Ry,(Kf.hD O).prev λb hb=>by have:=(D.o.af hb).1;omega⟩
    .simp[intOf];have:=U.o;omega
end
end
section
variable{X u u':World}{b i q vb:Nat}{o':fa}{xs:List Int}{F':Nat->Prop}{A':Option Addr}{T:TypeId}{P:Program}{ops:Array Oper}{a:Act}{Q:Exit->Act->World->Prop}
def oX(o:fa):Prop:=∀L,o=some L->iy L
structure eJ(T:TypeId)(p v v2 u:World)(g vb:Nat)(o:fa)(cs:Array Value):Prop where
 r:iM p u g o
 k:Ke (λb=>b=g\/b=vb) v u
 k2:Ke (λb=>b=g\/b=vb) v2 u
 bv:aB u vb T cs
 ne:vb≠g
 lo:p<=vb
 hv:vb<v
 rq:v.1.size<=v2.1.size
def fO(o:fa):Nat->fa
 |0=>o
 |i+1=>(bk 2 (fO o i)).2
section
variable{w v:World}{k n B:Nat}{o:fa}{L:List Int}{cs:Array Value}{F:Nat->Prop}{E:TypeId}{y:Value}
def iM.byO(h:iM p w g o):oX o:=λL e=>by subst e;exact h.R9
def oX.get(h:oX o)(k:Nat):oX (bk k o).2/\0<=(bk k o).1/\(bk k o).1<256^k:=by
 cases o with
 |none=>exact⟨λL e=>(by cases e),dM _,iq k⟩
 |some L=>
  unfold bk;dsimp only
  split
  .exact⟨λL e=>(by cases e),dM _,iq k⟩
  .rename_i l;have hb:=qh (zs:=L.take k) λz j=>h L rfl z (cG j);rw[bB,dt om]at hb;exact⟨λm e z j=>by cases e;exact h L rfl z (dC j),hb⟩
def oX.Sb:∀(c:Nat) {o:fa},oX o->oX (cH c o).2
 |0,o,h=>h
 |c+1,o,h=>by
  rw[ou]
  split
  .exact λL e=>by cases e
  .split
   .exact λL e=>by cases e
   .exact oX.Sb c (h.get 2).1
def oX.sh(h:oX o):oX (lH o).2:=oX.Sb _ (h.get 1).1
def oX.ins:∀(c:Nat) {o:fa},oX o->oX (iL c o).2
 |0,o,h=>h
 |c+1,none,h=>λL e=>by cases e
 |c+1,some L,h=>oX.ins c (h.get 2).1
def eJ.at{e:ay}(h:eJ T p v e u g vb o cs)[aF u u']:eJ T p v e u' g vb o cs:=⟨h.r.at,h.k.trans (Kf.later _),h.k2.trans (Kf.later _),h.bv.at,h.ne,h.lo,h.hv,h.rq⟩
def eJ.get(h:eJ T p v X u g vb o cs)(hr:iM p u' g o')(j:Ke (λb=>b=g) u u'):eJ T p v X u' g vb o' cs:=
 ⟨hr,h.k.trans (j.more (λ_ e=>.inl e) λ_ e=>.inr (.inl e)),h.k2.trans (j.more (λ_ e=>.inl e) λ_ e=>.inr (.inl e)),j.al h.bv h.ne,h.ne,h.lo,h.hv,h.rq⟩
def eJ.set(h:eJ T p v X u g vb o cs)(i:Nat)(y:Value):eJ T p v X (u.setCell (vb,i) y) g vb o (cs.setIfInBounds i y):=
 ⟨h.r.kf (F:=λb=>b=vb) ((Kf.refl (λb=>b=vb) u).ax (q:=⟨vb,i,none⟩) rfl y) (λb e=>by rw[e];exact h.lo) λe=>h.ne e.symm,h.k.ax (q:=⟨vb,i,none⟩) (.inr rfl) y,h.k2.ax (q:=⟨vb,i,none⟩) (.inr rfl) y,h.bv.ax i y,h.ne,h.lo,h.hv,h.rq⟩
theorem eJ.prev{e:ay}(h:eJ T p v e u g vb o cs):aj u p:=h.r.prev
def eJ.hD{m:ay}(h:eJ T p v m u g vb o cs)(l:cP A A' u u')(j:∀b,AF A b->m.1.size<=b)(hg:g<v):eJ T p v m u' g vb o cs:=
 have D:=h.rq
 ⟨h.r.kf (Kf.hD l) (λb hb=>by have:=j b hb;have:=h.lo;have:=h.hv;omega) λz=>(by have:=j g z;omega),h.k.DT l λC e=>aO D (j _ ⟨C,e,rfl⟩),h.k2.DT l λC e=>j _ ⟨C,e,rfl⟩,(Kf.hD l).al h.bv λz=>(by have:=j vb z;have:=h.hv;omega),h.ne,h.lo,h.hv,D⟩
def eJ.from_(h:eJ T p v X u g vb o cs):eJ T p v u u g vb o cs:=⟨h.r,h.k,Kf.refl _ _,h.bv,h.ne,h.lo,h.hv,h.k.size⟩
def eJ.rd{j:ay}(h:eJ T p v j u g vb o cs)(hr:Rd j A zs)(l:∀b,AF A b->v.1.size<=b)(hg:g<v):Rd u A zs:=h.k2.rd hr λb hb=>by
 have:=l b hb;have:=h.hv;rintro(e|e)<;>omega
def mh{w:ay}{o:Oper}{K:Act->World->Prop}(G:Region.wanted o (yielded ops a.tmps)=true)(s x:Operand)(t:TypeId)
  (I:o.op=.call {callee:=.builtin .append,args:= #[s,x],argTypes:= #[t,t]}) (E:TypeId) (ht:P.underlying t=some (.slice E)) (k bytes:Nat) (z:Value)
  (e:(P.info? E).map (λi=>(i.zero,i.size,i.bytes))=some (some z,k,bytes)) (r:z.cells.size=k) (J:0<k) (C:bytes<=1000)
  (B:Nat) (A:cD) (c n:Nat) (D:iP) (hs:a.eval s=.slice A n c) (j:aI w B E k A c n D) {vb:Nat} (l:iP) (M:a.eval x=.slice vb 1 1) (hb:aB w vb E l.toArray) (N:l=k) (O:∀u∈l,u.oneCell'=true) (R:n<=100000000) (S:B<=w)
  (h:∀A' m w',aI w' B E k A' m (n+1) (D++l)->cP A A' w w'->K (a.put o.dst (.slice A' (n+1) m)) w'):
  if Region.wanted o (yielded ops a.tmps)=true then Oper.wp P o a w K Q else K (a.put o.dst undef) w:=by
 rw[ah G];obtain⟨A',m,w',hr,U,V⟩:=qY (P:=P) j t o.type ht bytes e r J C hb N O R S;unfold Oper.wp execOp;simp only[I,resolve,invoke,builtin,rQ,B5,rK,B1,dX,jZ,hs,M,hr];exact h A' m w' U V
def yZ:() 90 #[.pointer vb] w (λe w'=>∃G,e=.returned (.slice (some ⟨G,0,none⟩) 5 5)/\w.1.size<=G/\aB w' G 183 #[.pointer (some ⟨vb,2,none⟩),.pointer (some ⟨vb,3,none⟩),.pointer (some ⟨vb,4,none⟩),.pointer (some ⟨vb,5,none⟩),.pointer (some ⟨vb,6,none⟩)]/\aj w' w):=by
 go_in
 go_upto_region 1 with fail
 refine aH w aq (λj _=>?_);refine qL [0,1,2,3,4,5,6,7,8,9,10,11,12,13,14] ?_;refine aM 15 λK hK=>?_;go_simp;refine aL hK ?_;refine bh (λj _ _=>?_);refine ap 16 ?_;refine aZ ?_
 go_wp2_with fail
 go_ret;exact⟨_,rfl,ai,Bx.al,aK⟩
end
end
section
variable{u u':World}{j q vb:Nat}{C:Option Addr}{ss:List Sp}{F':Nat->Prop}{o':fa}{z0 z1 z2 z3 z4 z5 z6 z7:Value}
def NF(x:Nd)(b:Nat):Prop:=AF x.A b\/AF x.I b\/AF x.P b\/∃s∈x.ps,AF s.A b
structure pN(B:Nat)(u:World)(x:Nd):Prop where
 s:Sl u x.A x.n x.o.S
 i:Sl u x.I x.ni x.ins
 p:du u x.P x.np x.ps
 ls:x.n<=x.c
 li:x.ni<=x.ci
 lp:x.np<=x.cp
 k6:bo x.o.k
 lo:∀b,NF x b->B<=b
 hi:∀b,NF x b->b<u.1.size
def aaf(p:ay)(g:Nat)(w:ay)(V:dV)(o:fa)(e:Ending)(w':ay):Prop:=
 ∃x:Nd,e=.returned (.agg #[x.o.kd,x.o.k,x.o.wd,x.o.st,x.o.sd,x.o.fr,x.o.tt,.slice x.A x.n x.c,.slice x.I x.ni x.ci,.slice x.P x.np x.cp])/\Hx (x.val=V)/\Hx (pN w.1.size w' x)/\Hx (iM p w' g o)/\Hx (Ke (λb=>b=g) w w')/\aj w' p
def jV.push{w:ay}{B:Nat}{x:Sp}(h:jV w B A c ss)(G:Rd w x.A x.zs)(hm:x.m=x.zs.length)(F:x.m<=x.c)(u:∀b,AF x.A b->B<=b/\b<w.1.size/\¬AF A b)(E:cP A C w w')
  (hr:aI w' B 25 1 C j (ss.length+1) ((fP ss).toList++[.slice x.A x.m x.c])):jV w' B C j (ss++[x]):=by
 have D:∀y∈ss++[x],∀l,y.A=some l->l.block<w.1.size:=λy hy l e=>by
  rcases bJ.1 hy with hy|hy
  .exact h.lt y hy l e
  .rw[cF.1 hy]at e;exact(u _ ⟨l,e,rfl⟩).2.1
 have z:∀y∈ss++[x],∀l bd,y.A=some l->A=some bd->bd.block≠l.block:=λy hy l bd e r=>by
  rcases bJ.1 hy with hy|hy
  .exact h.ne y hy l bd e r
  .rw[cF.1 hy]at e;exact λI=>(u _ ⟨l,e,rfl⟩).2.2 ⟨bd,r,I⟩
 refine⟨?_,λy hy=>?_,λy hy l bd e r=>?_,λy hy l e=>bu (D y hy l e) E.size⟩
 .rw[a1,FW];exact hr
 .rcases bJ.1 hy with hy'|hy'
  .obtain⟨J,K⟩:=h.el y hy';exact⟨J.hD E λl bd e r=>z y hy l bd e r,K⟩
  .rw[cF.1 hy']at hy⊢;exact⟨G.hD E λl bd e r=>z x (lL _ (cF.2 rfl)) l bd e r,hm,F,⟨λl e=>(u _ ⟨l,e,rfl⟩).1⟩⟩
 .rcases E.new bd r with⟨a0,L,M⟩|rG
  .rw[M];exact z y hy l a0 e L
  .have:=D y hy l e;omega
def jV.kf{w:ay}{B:Nat}{F:Nat->Prop}(h:jV w B A c ss)(l:Kf F F' w w')(hF:∀b,B<=b->¬F b):jV w' B A c ss:=
 ⟨l.row h.row λb hb=>hF b (h.row.af hb).1,λx j=>⟨l.rd (h.el x j).1 λb ⟨m,e,r⟩=>hF b (r▸(h.el x j).2.2.2.o m e),(h.el x j).2⟩,h.ne,λx j m e=>bu (h.lt x j m e) l.size⟩
theorem jV.abu{w:ay}{B:Nat}(h:jV w B A c ss):du w A ss.length ss:=⟨λj x b=>by
 have hm:=aC b;obtain⟨g,e,l⟩:=h.row.cell (j:=j) (v:=.slice x.A x.m x.c) (by simp[fP,b]);exact⟨g,0,e,(h.row.af ⟨_,e,rfl⟩).2.1,by rw[bX];exact l,(h.el x hm).1,(h.el x hm).2.1,(h.el x hm).2.2.1⟩,rfl⟩
section
variable{w v:World}{o:fa}{V:dV}
def abv{e j:Value}:Kf (λb=>b=q) (λb=>b=q) u ((((((((((u.setCell (q,0) z0).setCell (q,1) z1).setCell (q,2) z2).setCell (q,3) z3).setCell (q,4) z4).setCell (q,5) z5).setCell (q,6) z6).setCell (q,7) z7).setCell (q,8) e).setCell (q,9) j):=
 ((((((((((Kf.refl (λb=>b=q) u).ax (q:=⟨q,0,none⟩) rfl z0).ax (q:=⟨q,1,none⟩) rfl z1).ax (q:=⟨q,2,none⟩) rfl z2).ax (q:=⟨q,3,none⟩) rfl z3).ax (q:=⟨q,4,none⟩) rfl z4).ax (q:=⟨q,5,none⟩) rfl z5).ax (q:=⟨q,6,none⟩) rfl z6).ax (q:=⟨q,7,none⟩) rfl z7).ax (q:=⟨q,8,none⟩) rfl e).ax (q:=⟨q,9,none⟩) rfl j
def pN.kf{w w':ay}{B:Nat}{x:Nd}{F:Nat->Prop}(h:pN B w x)(l:Kf F F' w w')(hF:∀b,NF x b->¬F b):pN B w' x:=
 ⟨l.sl h.s λb hb=>hF b (.inl hb),l.sl h.i λb hb=>hF b (.inr (.inl hb)),⟨λj s y=>by
  obtain⟨b,off,e,m,z,C,D,E⟩:=h.p.rd j s y;have hb:=l.keep b m (hF b (.inr (.inr (.inl ⟨_,e,rfl⟩))));exact⟨b,off,e,bu m l.size,(dY hb).trans z,l.rd C λG r=>hF G (.inr (.inr (.inr ⟨s,aC y,r⟩))),D,E⟩,h.p.len⟩,h.ls,h.li,h.lp,h.k6,h.lo,λb hb=>bu (h.hi b hb) l.size⟩
def aag{w v u u':ay}{g:Nat}(j:w.1.size<=v.1.size)[l:aF w v](h:Ke (λb=>b=g\/b=vb) v u)(m:Kf (λb=>b=q) (λb=>b=q) u u')(hq:w<=q/\w<=vb):Ke (λb=>b=g) w u':=
 ⟨(l.st.mono (aT _)).trans (h.base.trans m.base),aO j (aO h.size m.size),λb hb r=>(m.keep b (bu hb (aO j h.size)) (by show¬b=q;omega)).trans ((h.keep b (bu hb j) (by rintro(e|e);exact r e;omega)).trans (l.st.block b hb)),λ_ hb=>.inl hb⟩
def Jn(c:Nat):iL c none=([],none):=by cases c<;>rfl
def Jo(c:Nat):iW c none=([],none):=by cases c<;>rfl
def Sc(h:Hx (iM p w g o))(hN:Hx (yW o=(V,o'))):() 48 #[.pointer g] w (aaf p g w V o'):=by
 have CB:=@aa;have FB:=@aP;have hg0:=h.o.hg;have Sd:=h.o.byO;have e1:(256:Int)^1=256:=by decide
 have e2:(256:Int)^2=65536:=by decide
 have hn:=hN.o;obtain⟨⟨z0,o0⟩,iQ⟩:=lh (bk 1 o);have Se:=(Sd).get 1;rw[iQ]at Se;dsimp only at Se;have Hz0:=ae iQ;obtain⟨⟨z1,o1⟩,lD⟩:=lh (bk 8 o0);have VW:=(Se.1).get 8;rw[lD]at VW;dsimp only at VW;have Hz1:=ae lD;obtain⟨⟨f1,E⟩,N6⟩:=lh (bk 2 o1);have Sf:=(VW.1).get 2;rw[N6]at Sf;dsimp only at Sf;have Hf1:=ae N6;obtain⟨⟨f2,o3⟩,Gr⟩:=lh (bk 2 E);have Sg:=(Sf.1).get 2;rw[Gr]at Sg;dsimp only at Sg;have Hf2:=ae Gr;obtain⟨⟨f3,o4⟩,QV⟩:=lh (bk 2 o3);have Sh:=(Sg.1).get 2;rw[QV]at Sh;dsimp only at Sh;have Hf3:=ae QV;obtain⟨⟨f4,o5⟩,VX⟩:=lh (bk 2 o4);have Si:=(Sh.1).get 2;rw[VX]at Si;dsimp only at Si;have Hf4:=ae VX;obtain⟨⟨f5,o6⟩,VY⟩:=lh (bk 2 o5);have Sj:=(Si.1).get 2;rw[VY]at Sj;dsimp only at Sj;have Hf5:=ae VY;obtain⟨⟨zs,o7⟩,oQ⟩:=lh (lH o6);have VZ:=(Sj.1).sh;rw[oQ]at VZ;dsimp only at VZ;have HZS:=ae oQ;obtain⟨⟨ci,o8⟩,V0⟩:=lh (bk 1 o7);have Z:=VZ.get 1;rw[V0]at Z;dsimp only at Z;rw[e1]at Z;have HCI:=ae V0;obtain⟨⟨is,o9⟩,Sk⟩:=lh (iL ci.toNat o8);have V1:=oX.ins ci.toNat Z.1;rw[Sk]at V1;dsimp only at V1;obtain⟨⟨cq,o10⟩,V4⟩:=lh (bk 1 o9);have Oc:=V1.get 1;rw[V4]at Oc;dsimp only at Oc;rw[e1]at Oc;have HCQ:=ae V4;obtain⟨⟨ps,V5⟩,Gs⟩:=lh (iW cq.toNat o10);rw[e1]at Se;rw[e2]at Sf Sg Sh Si Sj;obtain⟨K,hK⟩:=lh (IntKind.i64.wrap z1);have hV:V=⟨⟨z0,K,f1,f2,f3,f4,f5,zs⟩,is,ps⟩/\o'=V5:=by
  unfold yW sZ at hn;simp only[iQ,lD,N6,Gr,QV,VX,VY,oQ,V0,Sk,V4,Gs,hK]at hn;injection hn with n1 n2
  exact⟨n1.symm,n2.symm⟩
 have HV:=ae hV;obtain⟨c,rfl⟩:=cf Z.2.1;obtain⟨d,rfl⟩:=cf Oc.2.1;rw[bI]at Sk Gs;have hc:c<256:=by have:=Z.2.2;omega
 have hd:d<256:=by have:=Oc.2.2;omega
 have HIS:=ae Sk;have HU:=ae Gs;have w0:IntKind.i64.wrap z0=z0:=by rw[aV];omega
 have w1:IntKind.i64.wrap f1=f1:=by rw[aV];omega
 have w2:IntKind.i64.wrap f2=f2:=by rw[aV];omega
 have w3:IntKind.i64.wrap f3=f3:=by rw[aV];omega
 have w4:IntKind.i64.wrap f4=f4:=by rw[aV];omega
 have w5:IntKind.i64.wrap f5=f5:=by rw[aV];omega
 have hK6:bo K:=by rw[<-hK];unfold bo;rw[aV];omega
 have PU:=ae hK6;clear iQ lD N6 Gr QV VX VY oQ V0 Sk V4 Gs hn hV Se VW Sf Sg Sh Si Sj VZ Z V1 Oc Sd e1 e2 hK6
 go_in
 go_upto_region 2 with fail
 refine cT (λv pv k0 k1=>?_);obtain⟨vb,hvb⟩:=lg (w.1.size+1);rw[<-hvb]at k1⊢;have pJ:Hx (eJ 84 p v v v g vb o #[au,au,au,au,au,au,au,(),(),()]):=ae ⟨h.o.at,Kf.refl _ _,Kf.refl _ _,k1.al,om,om,k1.al.lt,an _⟩;have rq:=k1.al.lt;have zS:g<v.1.size:=om;have HVB:=ae hvb;clear hvb
 go_upto_region 3 with(go_at_call 46;refine(eF (k:=1) (y:=1) (ae pJ.o.r) rfl ak ak Hz0).mono ?_;rintro e u1 ⟨rfl,HR,Y,pu⟩;have HP:Hx (eJ 84 p v v u1 g vb o0 #[au,au,au,au,au,au,au,(),(),()]):=ae (pJ.o.get HR Y);have kb:Bx u1 vb 84 #[au,au,au,au,au,au,au,(),(),()]:=⟨HP.o.bv⟩)
 obtain⟨W1,lE⟩:=lg (u1.setCell (vb,0) z0);have y2:Hx (eJ 84 p v v W1 g vb o0 #[z0,au,au,au,au,au,au,(),(),()]):=ae (by rw[lE];exact HP.o.set 0 _);rw[<-lE];clear lE;clear k1
 go_upto_region 4 with(go_at_call 46;refine(eF (k:=8) (y:=8) (ae y2.o.r) rfl ak ak Hz1).mono ?_;rintro e u2 ⟨rfl,Ff,abw,q8⟩;have xS:Hx (eJ 84 p v v u2 g vb o1 #[z0,au,au,au,au,au,au,(),(),()]):=ae (y2.o.get Ff abw);have ty:Bx u2 vb 84 #[z0,au,au,au,au,au,au,(),(),()]:=⟨xS.o.bv⟩)
 obtain⟨W2,As⟩:=lg (u2.setCell (vb,1) (.int .i64 K));have ky:Hx (eJ 84 p v v W2 g vb o1 #[z0,K,au,au,au,au,au,(),(),()]):=ae (by rw[As];exact xS.o.set 1 _);rw[<-As];clear As
 go_upto_region 5 with(go_at_call 90;refine yZ.mono ?_;rintro e u3 ⟨G,rfl,hG,kG,Sm⟩)
 have FR:Hx (eJ 84 p v v u3 g vb o1 #[z0,K,au,au,au,au,au,(),(),()]):=ky.o.at;have hGv:v.1.size<=G:=aO ky.o.k.size hG;have V6:=ae kG;have J:Hx (∀i,i<=5->fO o1 i=(if i=0 then o1 else if i=1 then E else if i=2 then o3 else if i=3 then o4 else if i=4 then o5 else o6)):=λi hi=>by
  have a2:fO o1 1=E:=by show(bk 2 o1).2=_;rw[Hf1.o]
  have a3:fO o1 2=o3:=by show(bk 2 (fO o1 1)).2=_;rw[a2,Hf2.o]
  have a4:fO o1 3=o4:=by show(bk 2 (fO o1 2)).2=_;rw[a3,Hf3.o]
  have a5:fO o1 4=o5:=by show(bk 2 (fO o1 3)).2=_;rw[a4,Hf4.o]
  have a6:fO o1 5=o6:=by show(bk 2 (fO o1 4)).2=_;rw[a5,Hf5.o]
  have:i=0\/i=1\/i=2\/i=3\/i=4\/i=5:=om;rcases this with rfl|rfl|rfl|rfl|rfl|rfl
  .rfl
  .exact a2
  .exact a3
  .exact a4
  .exact a5
  .exact a6
 clear kG hG;go_loopw [21] (λs21 wr=>∃i:Nat,i<=5/\s21=.int .i64 (i:Int)/\Hx (eJ 84 p v v wr g vb (fO o1 i) #[z0,K,.int .i64 (if 0<i then f1 else 0),.int .i64 (if 1<i then f2 else 0),.int .i64 (if 2<i then f3 else 0),.int .i64 (if 3<i then f4 else 0),.int .i64 (if 4<i then f5 else 0),(),(),()])/\Hx (aB wr G 183 #[.pointer (some ⟨vb,2,none⟩),.pointer (some ⟨vb,3,none⟩),.pointer (some ⟨vb,4,none⟩),.pointer (some ⟨vb,5,none⟩),.pointer (some ⟨vb,6,none⟩)])/\aj wr p) (λs21 _=>5-(intOf s21).toNat)
 .exact⟨0,ak,rfl,FR,V6,FR.o.prev⟩
 ·
  clear FR V6;obtain⟨i,hi,rfl,C,HG,hp⟩:=hrel;have:i=0\/i=1\/i=2\/i=3\/i=4\/i=5:=om;rcases this with rfl|rfl|rfl|rfl|rfl|rfl
  .have z:Hx (eJ 84 p v v wr g vb o1 #[z0,K,au,au,au,au,au,(),(),()]):=ae (by have:=C.o;rw[J.o 0 ak]at this;exact this);have kG:Bx wr G 183 #[.pointer (some ⟨vb,2,none⟩),.pointer (some ⟨vb,3,none⟩),.pointer (some ⟨vb,4,none⟩),.pointer (some ⟨vb,5,none⟩),.pointer (some ⟨vb,6,none⟩)]:=⟨HG⟩
   go_wp2_with (go_at_call 46;refine(eF (k:=2) (y:=2) (ae z.o.r) rfl ak ak Hf1).mono ?_;rintro e u4 ⟨rfl,HR,Y,pu⟩;have l:Hx (eJ 84 p v v u4 g vb E #[z0,K,au,au,au,au,au,(),(),()]):=ae (z.o.get HR Y);have V7:Bx u4 vb 84 #[z0,K,au,au,au,au,au,(),(),()]:=⟨l.o.bv⟩)
   go_roundw
   ·
    refine⟨1,ak,rfl,ae ?_,ae ?_,(l.o.set 2 _).prev⟩
    .rw[J.o 1 ak];exact l.o.set 2 _
    .have:=Y.o.al HG (by show¬G=g;omega);exact this.a9 (p:=⟨vb,2,none⟩) (by show G≠vb;omega) _
   .simp[intOf]
  .have z:Hx (eJ 84 p v v wr g vb E #[z0,K,f1,au,au,au,au,(),(),()]):=ae (by have:=C.o;rw[J.o 1 ak]at this;exact this);have kG:Bx wr G 183 #[.pointer (some ⟨vb,2,none⟩),.pointer (some ⟨vb,3,none⟩),.pointer (some ⟨vb,4,none⟩),.pointer (some ⟨vb,5,none⟩),.pointer (some ⟨vb,6,none⟩)]:=⟨HG⟩
   go_wp2_with (go_at_call 46;refine(eF (k:=2) (y:=2) (ae z.o.r) rfl ak ak Hf2).mono ?_;rintro e u4 ⟨rfl,HR,Y,pu⟩;have l:Hx (eJ 84 p v v u4 g vb o3 #[z0,K,f1,au,au,au,au,(),(),()]):=ae (z.o.get HR Y);have V7:Bx u4 vb 84 #[z0,K,f1,au,au,au,au,(),(),()]:=⟨l.o.bv⟩)
   go_roundw
   ·
    refine⟨2,ak,rfl,ae ?_,ae ?_,(l.o.set 3 _).prev⟩
    .rw[J.o 2 ak];exact l.o.set 3 _
    .have:=Y.o.al HG (by show¬G=g;omega);exact this.a9 (p:=⟨vb,3,none⟩) (by show G≠vb;omega) _
   .simp[intOf]
  .have z:Hx (eJ 84 p v v wr g vb o3 #[z0,K,f1,f2,au,au,au,(),(),()]):=ae (by have:=C.o;rw[J.o 2 ak]at this;exact this);have kG:Bx wr G 183 #[.pointer (some ⟨vb,2,none⟩),.pointer (some ⟨vb,3,none⟩),.pointer (some ⟨vb,4,none⟩),.pointer (some ⟨vb,5,none⟩),.pointer (some ⟨vb,6,none⟩)]:=⟨HG⟩
   go_wp2_with (go_at_call 46;refine(eF (k:=2) (y:=2) (ae z.o.r) rfl ak ak Hf3).mono ?_;rintro e u4 ⟨rfl,HR,Y,pu⟩;have l:Hx (eJ 84 p v v u4 g vb o4 #[z0,K,f1,f2,au,au,au,(),(),()]):=ae (z.o.get HR Y);have V7:Bx u4 vb 84 #[z0,K,f1,f2,au,au,au,(),(),()]:=⟨l.o.bv⟩)
   go_roundw
   ·
    refine⟨3,ak,rfl,ae ?_,ae ?_,(l.o.set 4 _).prev⟩
    .rw[J.o 3 ak];exact l.o.set 4 _
    .have:=Y.o.al HG (by show¬G=g;omega);exact this.a9 (p:=⟨vb,4,none⟩) (by show G≠vb;omega) _
   .simp[intOf]
  .have z:Hx (eJ 84 p v v wr g vb o4 #[z0,K,f1,f2,f3,au,au,(),(),()]):=ae (by have:=C.o;rw[J.o 3 ak]at this;exact this);have kG:Bx wr G 183 #[.pointer (some ⟨vb,2,none⟩),.pointer (some ⟨vb,3,none⟩),.pointer (some ⟨vb,4,none⟩),.pointer (some ⟨vb,5,none⟩),.pointer (some ⟨vb,6,none⟩)]:=⟨HG⟩
   go_wp2_with (go_at_call 46;refine(eF (k:=2) (y:=2) (ae z.o.r) rfl ak ak Hf4).mono ?_;rintro e u4 ⟨rfl,HR,Y,pu⟩;have l:Hx (eJ 84 p v v u4 g vb o5 #[z0,K,f1,f2,f3,au,au,(),(),()]):=ae (z.o.get HR Y);have V7:Bx u4 vb 84 #[z0,K,f1,f2,f3,au,au,(),(),()]:=⟨l.o.bv⟩)
   go_roundw
   ·
    refine⟨4,ak,rfl,ae ?_,ae ?_,(l.o.set 5 _).prev⟩
    .rw[J.o 4 ak];exact l.o.set 5 _
    .have:=Y.o.al HG (by show¬G=g;omega);exact this.a9 (p:=⟨vb,5,none⟩) (by show G≠vb;omega) _
   .simp[intOf]
  .have z:Hx (eJ 84 p v v wr g vb o5 #[z0,K,f1,f2,f3,f4,au,(),(),()]):=ae (by have:=C.o;rw[J.o 4 ak]at this;exact this);have kG:Bx wr G 183 #[.pointer (some ⟨vb,2,none⟩),.pointer (some ⟨vb,3,none⟩),.pointer (some ⟨vb,4,none⟩),.pointer (some ⟨vb,5,none⟩),.pointer (some ⟨vb,6,none⟩)]:=⟨HG⟩
   go_wp2_with (go_at_call 46;refine(eF (k:=2) (y:=2) (ae z.o.r) rfl ak ak Hf5).mono ?_;rintro e u4 ⟨rfl,HR,Y,pu⟩;have l:Hx (eJ 84 p v v u4 g vb o6 #[z0,K,f1,f2,f3,f4,au,(),(),()]):=ae (z.o.get HR Y);have V7:Bx u4 vb 84 #[z0,K,f1,f2,f3,f4,au,(),(),()]:=⟨l.o.bv⟩)
   go_roundw
   ·
    refine⟨5,ak,rfl,ae ?_,ae ?_,(l.o.set 6 _).prev⟩
    .rw[J.o 5 ak];exact l.o.set 6 _
    .have:=Y.o.al HG (by show¬G=g;omega);exact this.a9 (p:=⟨vb,6,none⟩) (by show G≠vb;omega) _
   .simp[intOf]
  .have z:Hx (eJ 84 p v v wr g vb o6 #[z0,K,f1,f2,f3,f4,f5,(),(),()]):=ae (by have:=C.o;rw[J.o 5 ak]at this;exact this);clear C J
   go_upto_region 10 with(go_at_call 47;refine(t6 (ae z.o.r) HZS).mono ?_;rintro e u5 ⟨P,cS,rfl,vo,Sn,HR5,oV,pu5⟩;have rv:Hx (eJ 84 p v v u5 g vb o7 #[z0,K,f1,f2,f3,f4,f5,(),(),()]):=ae (z.o.get HR5 oV);have kb6:Bx u5 vb 84 #[z0,K,f1,f2,f3,f4,f5,(),(),()]:=⟨rv.o.bv⟩)
   obtain⟨W6,xn⟩:=lg (u5.setCell (vb,7) (.slice P zs cS));have Jp:Hx (eJ 84 p v v W6 g vb o7 #[z0,K,f1,f2,f3,f4,f5,.slice P zs cS,(),()]):=ae (by rw[xn];exact rv.o.set 7 _);have hvw:v.1.size<=wr.1.size:=z.o.k.size;have Lk:Hx (Rd W6 P zs/\∀b,AF P b->v.1.size<=b/\b<W6.1.size):=ae (by
    have h9:Kf (λb=>b=vb) (λb=>b=vb) u5 W6:=by rw[xn];exact(Kf.refl (λb=>b=vb) u5).ax (q:=⟨vb,7,none⟩) rfl _
    exact⟨h9.rd vo.rd λb hb e=>by have:=vo.lo b hb;omega,λb hb=>⟨aO hvw (vo.lo b hb),bu (vo.hi b hb) h9.size⟩⟩)
   have Sq:=ae Sn;rw[<-xn];clear xn vo Sn
   go_upto_region 11 with(go_at_call 46;refine(eF (k:=1) (y:=1) (ae Jp.o.r) rfl ak ak HCI).mono ?_;rintro e u7 ⟨rfl,HR7,xj,pu7⟩)
   have Sr:Hx (eJ 84 p v u7 u7 g vb o8 #[z0,K,f1,f2,f3,f4,f5,.slice P zs cS,(),()]):=(Jp.o.get HR7 xj).from_;have Ll:Hx (Rd u7 P zs/\∀b,AF P b->v.1.size<=b/\b<u7.1.size):=ae ⟨xj.o.rd Lk.o.1 λb hb=>by have:=(Lk.o.2 b hb).1;show¬b=g;omega,λb hb=>⟨(Lk.o.2 b hb).1,bu (Lk.o.2 b hb).2 xj.o.size⟩⟩;go_loopw [6] (λs6 wr=>∃(q r:Nat) (B:av) (I:cD) (cI:Nat) (E:fa),q+r=c/\B=q/\s6=.int .u64 (r:Int)/\Hx (eJ 84 p v u7 wr g vb E #[z0,K,f1,f2,f3,f4,f5,.slice P zs cS,(I,q,cI),()])/\Hx (az wr u7.1.size 3 I cI B)/\Hx ((B++(iL r E).1,(iL r E).2)=(is,o9))/\aj wr p) (λs6 _=>(intOf s6).toNat)
   .exact⟨0,c,[],none,0,o8,om,rfl,rfl,Sr,ae (az.nil _ _ _),ae (by rw[HIS.o];rfl),pu7⟩
   ·
    obtain⟨q,r,B,I,cI,E,VV,Jq,rfl,C,U,HM,hp⟩:=hrel;obtain⟨v3,fl,NZ,S⟩:=C.o.r.flag;have kbw:Bx wr vb 84 #[z0,K,f1,f2,f3,f4,f5,.slice P zs cS,(I,q,cI),()]:=⟨C.o.bv⟩;by_cases T:0<r/\fl=false
    .obtain⟨hr,rfl⟩:=T;cases E with
     |none=>cases S
     |some L2=>
      subst Jq;obtain⟨r',rfl⟩:∃r',r=r'+1:=⟨r-1,om⟩;have V8:=yY C.o.r 2;have e2:(256:Int)^2=65536:=by decide
      rw[e2]at V8;obtain⟨⟨Q,o3⟩,hG⟩:=lh (bk 2 (some L2));have hm:=HM.o;rw[iL,hG]at hm;rw[hG]at V8;dsimp only at hm V8;have wz:IntKind.i64.wrap Q=Q:=by rw[aV];omega
      have t1:decide (0<r'+1)=true:=aG;have mZ:=ae hG;have sw:Hx (((B++[Q])++(iL r' o3).1,(iL r' o3).2)=(is,o9)):=ae (by rw[<-hm,dg];rfl);obtain⟨R1,y3⟩:=lg (r'+1:Nat);rw[<-y3]at t1⊢;have wr2:IntKind.u64.wrap ((R1:Int)-1)=(r':Int):=by rw[bg];omega
      have Gt:=ae y3;clear hG hm e2 V8 y3 S hr
      go_upto_region 13 with fail
      refine aH p aq (λj _=>?_)
      repeat' (first
       |(refine wH 0 ?_
         refine ap 0 ?_;refine uY 2 50 ?_)
       |(refine wH 4 ?_
         refine uY 4 52 ?_)
       |(refine wH 7 ?_
         refine uY 7 55 ?_)
       |(intro (tg:Tg 1) K hK
         clear tg;go_simp;refine aL hK ?_;clear hK K)
       |(intro (tg:Tg 3) K hK
         clear tg;have pf:=C.o.at (u':=j);have Jr:=U.o.at (w':=j);go_simp
         (with_reducible refine(eF (k:=2) (y:=2) (ae pf.r) rfl ak ak mZ).mono ?_)
         rintro e j ⟨rfl,DL,N,Gu⟩;dsimp only;have vB:=ae (pf.get DL N);have HO9:Hx (az j u7.1.size 3 I cI B):=ae (N.o.own Jr (λb hb=>by have:=(U.o.af hb).1;have:=Sr.o.rq;show¬b=g;omega));have W8:Bx j vb 84 _:=⟨vB.o.bv⟩;refine aL hK ?_ Gu;clear hK K)
       |(intro (tg:Tg 5) K hK
         clear tg;go_simp;refine aL hK ?_;refine bh (λj _ _=>?_))
       |(intro (tg:Tg 6) K hK
         clear tg;have Od:=vB.o.at (u':=j);have ho9:=HO9.o.at (w':=j);refine mh aq _ _ _ rfl 3 underlying24 1 8 au aq rfl ak ak u7.1.size I cI B.length (B.map (Value.int .i64)) rfl ho9.row [.int .i64 Q] rfl Bx.al rfl (λu hu=>by rw[cF.1 hu];rfl) om Od.k2.size ?_;intro R c3 j qm Am;have X:=ae (Od.hD Am (λb hb=>(U.o.af hb).1) zS);have Xa:Hx (az j u7.1.size 3 R c3 (B++[Q])):=ae (by unfold az;rw[a1,cJ];exact qm);have MF:aj j p:=X.o.prev;have Xb:Bx j vb 84 _:=⟨X.o.bv⟩;refine aL hK ?_ MF;clear hK K)
       |(intro (tg:Tg 8) K hK
         clear tg;have MH:=(X.o.at (u':=j)).bv.cell 8;have Ss:=(X.o.at (u':=j)).bv.frozen 8;go_simp;obtain⟨W9,M⟩:=lg (j.setCell (vb,8) (.slice R (B.length+1) c3));have D:=ae ((X.o.at (u':=j)).set 8 (.slice R (B.length+1) c3));have Gv:Hx (az W9 u7.1.size 3 R c3 (B++[Q])):=ae ((Xa.o.at (w':=j)).same λad e9=>by rw[M];exact bm _ ⟨vb,8,none⟩ _ _ (by have:=Xa.o.fresh ad e9;have:=Sr.o.rq;show ad.block≠vb;omega));rw[<-M]at D⊢;have Su:aj W9 p:=D.o.prev;clear M MH Ss;refine aL hK ?_ Su;clear hK K)
       |refine mo 1 ?_
       |refine mo 6 ?_
       |refine mo 8 ?_
       |refine mo 5 ?_
       |refine mo 3 ?_
       |refine uZ 1 3 ?_ ?_
       |refine uZ 1 5 ?_ ?_
       |refine Uq ?_)
      all_goals
       go_wp2_with fail
       exact⟨⟨B.length+1,r',B++[Q],R,c3,o3,by have:=Gt.o;omega,aG,rfl,D,ae (Gv.o),sw,D.o.prev⟩,by simp[intOf];have:=Gt.o;omega⟩
    .have Gw:is=B/\o9=E:=by
      have hm:=HM.o;have h8:iL r E=([],E):=by
       rcases Cj r with h9|h9
       .subst h9;rfl
       .cases E with
        |none=>exact Jn r
        |some L=>exact absurd ⟨h9,S⟩ T
      rw[h8,fG]at hm;injection hm with m1 m2
      exact⟨m1.symm,m2.symm⟩
     obtain⟨rfl,rfl⟩:=Gw;subst Jq;have FSq:(decide (0<r)=false)\/(decide (0<r)=true/\fl=true):=by
      by_cases h9:0<r
      .exact .inr ⟨by simpa using h9,by cases fl;exact absurd ⟨h9,rfl⟩ T;rfl⟩
      .exact .inl (by simpa using h9)
     have Lm:Hx (Rd wr P zs/\∀b,AF P b->v.1.size<=b/\b<wr.1.size):=ae ⟨C.o.rd Ll.o.1 (λb hb=>(Ll.o.2 b hb).1) om,λb hb=>⟨(Ll.o.2 b hb).1,bu (Ll.o.2 b hb).2 C.o.k2.size⟩⟩;clear T S HM;rcases FSq with t1|⟨t1,rfl⟩
     all_goals
      go_upto_region 15 with(go_at_call 46;refine(eF (k:=1) (y:=1) (ae C.o.r) rfl ak ak HCQ).mono ?_;rintro e u9 ⟨rfl,DL,N,pu9⟩)
      have vB:Hx (eJ 84 p v u9 u9 g vb o10 #[z0,K,f1,f2,f3,f4,f5,.slice P zs cS,.slice I is cI,()]):=(C.o.get DL N).from_;have Ln:Hx (Rd u9 P zs/\∀b,AF P b->v.1.size<=b/\b<u9.1.size):=ae ⟨N.o.rd Lm.o.1 λb hb=>by have:=(Lm.o.2 b hb).1;show¬b=g;omega,λb hb=>⟨(Lm.o.2 b hb).1,bu (Lm.o.2 b hb).2 N.o.size⟩⟩;have V9:Hx (Rd u9 I is/\∀b,AF I b->v.1.size<=b/\b<u9.1.size):=ae ⟨N.o.rd U.o.rd λb hb=>by have:=(U.o.af hb).1;have:=Sr.o.rq;show¬b=g;omega,λb hb=>⟨aO Sr.o.rq (U.o.af hb).1,bu (U.o.af hb).2.1 N.o.size⟩⟩;have abx:Hx (is<=cI):=U.o.gW;clear t1 kbw NZ hp C U;clear VV;go_loopw [7] (λs7 wr=>∃(q r:Nat) (O:List Sp) (R:cD) (c3:Nat) (E:fa),q+r=d/\O=q/\s7=.int .u64 (r:Int)/\Hx (eJ 84 p v u9 wr g vb E #[z0,K,f1,f2,f3,f4,f5,.slice P zs cS,.slice I is cI,(R,q,c3)])/\Hx (jV wr u9.1.size R c3 O)/\Hx ((aW O++(iW r E).1,(iW r E).2)=(ps,V5))/\aj wr p) (λs7 _=>(intOf s7).toNat)
      .exact⟨0,d,[],none,0,o10,om,rfl,rfl,vB,ae jV.nil,ae (by rw[HU.o];rfl),pu9⟩
      ·
       obtain⟨q,r,O,R,c3,E,VV,Jq,rfl,C,U,HM,hp⟩:=hrel;obtain⟨v3,fl,NZ,S⟩:=C.o.r.flag;have kbw:Bx wr vb 84 #[z0,K,f1,f2,f3,f4,f5,.slice P zs cS,.slice I is cI,(R,q,c3)]:=⟨C.o.bv⟩;by_cases T:0<r/\fl=false
       .obtain⟨hr,rfl⟩:=T;cases E with
        |none=>cases S
        |some L2=>
         subst Jq;obtain⟨r',rfl⟩:∃r',r=r'+1:=⟨r-1,om⟩;obtain⟨⟨Q,o3⟩,hG⟩:=lh (lH (some L2));have hm:=HM.o;rw[iW,hG]at hm;dsimp only at hm;have t1:decide (0<r'+1)=true:=aG;have mZ:=ae hG;have sw:=ae hm;obtain⟨R1,y3⟩:=lg (r'+1:Nat);rw[<-y3]at t1⊢;have wr2:IntKind.u64.wrap ((R1:Int)-1)=(r':Int):=by rw[bg];omega
         have Gt:=ae y3;clear hG hm y3 S hr
         go_upto_region 17 with fail
         refine aH p aq (λj _=>?_)
         repeat' (first
          |(refine wH 0 ?_
            refine ap 0 ?_;refine uY 2 71 ?_)
          |(refine wH 6 ?_
            refine uY 6 75 ?_)
          |(intro (tg:Tg 1) K hK
            clear tg;go_simp;refine aL hK ?_;clear hK K)
          |(intro (tg:Tg 3) K hK
            clear tg;have pf:=C.o.at (u':=j);have Jr:=U.o.at (w':=j);have Gx:u9.1.size<=j.1.size:=pf.k2.size;have Gy:∀b,AF R b->b<j.1.size:=λb hb=>(Jr.row.af hb).2.1;go_simp
            (with_reducible refine(t6 (ae pf.r) mZ).mono ?_)
            rintro e j ⟨AX,cX,rfl,Sv,hlX,DL,N,Gu⟩;dsimp only;have Sw:=ae (pf.get DL N);have Qh:Hx (jV j u9.1.size R c3 O):=ae (Jr.kf N (λb hb=>by have:=vB.o.k.size;show¬b=g;omega));have Gz:Hx (Rd j AX Q/\(∀b,AF AX b->u9.1.size<=b/\b<j.1.size/\¬AF R b)/\Q<=cX):=ae ⟨Sv.rd,λb hb=>⟨aO Gx (Sv.lo b hb),Sv.hi b hb,λhx=>by have:=Sv.lo b hb;have:=Gy b hx;omega⟩,hlX⟩;have W8:Bx j vb 84 _:=⟨Sw.o.bv⟩;clear Sv hlX Gx Gy;refine aL hK ?_ Gu;clear hK K)
          |(intro (tg:Tg 4) K hK
            clear tg;go_simp;refine aL hK ?_;refine bh (λj _ _=>?_))
          |(intro (tg:Tg 5) K hK
            clear tg;have Sx:=Sw.o.at (u':=j);have Sy:=Qh.o.at (w':=j);have Sz:Rd j AX Q:=Gz.o.1.below (a7 _ j);have aby:∀b,AF AX b->u9.1.size<=b/\b<j.1.size/\¬AF R b:=λb hb=>⟨(Gz.o.2.1 b hb).1,bu (Gz.o.2.1 b hb).2.1 ai,(Gz.o.2.1 b hb).2.2⟩;refine mh aq _ _ _ rfl 25 underlying82 1 24 () aq rfl ak ak u9.1.size R c3 O.length (fP O).toList rfl Sy.row [.slice AX Q cX] rfl Bx.al rfl (λu hu=>by rw[cF.1 hu];rfl) om Sx.k2.size ?_;intro A4 c4 j qm Am;have Js:=ae (Sx.hD Am (λb hb=>(U.o.row.af hb).1) zS);have Oe:Hx (jV j u9.1.size A4 c4 (O++[⟨AX,Q.length,cX,Q⟩])):=ae (Sy.push (x:=⟨AX,Q.length,cX,Q⟩) Sz rfl Gz.o.2.2 aby Am qm);have MF:aj j p:=Js.o.prev;have Xb:Bx j vb 84 _:=⟨Js.o.bv⟩;refine aL hK ?_ MF;clear hK K)
          |(intro (tg:Tg 7) K hK
            clear tg;have MH:=(Js.o.at (u':=j)).bv.cell 9;have Ss:=(Js.o.at (u':=j)).bv.frozen 9;go_simp;obtain⟨W9,M⟩:=lg (j.setCell (vb,9) (.slice A4 (O.length+1) c4));have D:=ae ((Js.o.at (u':=j)).set 9 (.slice A4 (O.length+1) c4));have Gv:Hx (jV W9 u9.1.size A4 c4 (O++[⟨AX,Q.length,cX,Q⟩])):=ae ((Oe.o.at (w':=j)).kf (F:=λb=>b=vb) (F':=λb=>b=vb) (by rw[M];exact(Kf.refl (λb=>b=vb) j).ax (q:=⟨vb,9,none⟩) rfl _) λb hb=>by have:=vB.o.k.size;show¬b=vb;omega);rw[<-M]at D⊢;have Su:aj W9 p:=D.o.prev;clear M MH Ss;refine aL hK ?_ Su;clear hK K)
          |refine mo 1 ?_
          |refine mo 5 ?_
          |refine mo 7 ?_
          |refine mo 4 ?_
          |refine mo 3 ?_
          |refine uZ 1 3 ?_ ?_
          |refine uZ 1 4 ?_ ?_
          |refine Uq ?_)
         all_goals
          go_wp2_with fail
          exact⟨⟨O.length+1,r',O++[⟨AX,Q.length,cX,Q⟩],A4,c4,o3,by have:=Gt.o;omega,aG,rfl,D,Gv,ae (by have:=sw.o;rw[<-this];simp[aW]),D.o.prev⟩,by simp[intOf];have:=Gt.o;omega⟩
       .have Gw:ps=aW O/\V5=E:=by
         have hm:=HM.o;have h8:iW r E=([],E):=by
          rcases Cj r with h9|h9
          .subst h9;rfl
          .cases E with
           |none=>exact Jo r
           |some L=>exact absurd ⟨h9,S⟩ T
         rw[h8,fG]at hm;injection hm with m1 m2
         exact⟨m1.symm,m2.symm⟩
        obtain⟨hp9,rfl⟩:=Gw;have Yv:=ae hp9;subst Jq;have FSq:(decide (0<r)=false)\/(decide (0<r)=true/\fl=true):=by
         by_cases h9:0<r
         .exact .inr ⟨by simpa using h9,by cases fl;exact absurd ⟨h9,rfl⟩ T;rfl⟩
         .exact .inl (by simpa using h9)
        have hrb:aB wr w.1.size 84 #[au,au,au,au,au,au,au,(),(),()]:=C.o.k.al k0.al (by have:=HVB.o;rintro(e9|e9)<;>omega);have kr:Bx wr w.1.size 84 #[au,au,au,au,au,au,au,(),(),()]:=⟨hrb⟩;have FQ:Hx (pN v.1.size wr ⟨⟨z0,K,f1,f2,f3,f4,f5,zs⟩,P,zs.length,cS,I,is.length,cI,is,R,O.length,c3,O⟩):=ae (by
         have h9:=C.o.rq;refine⟨⟨C.o.rd Ln.o.1 (λb hb=>(Ln.o.2 b hb).1) om,rfl⟩,⟨C.o.rd V9.o.1 (λb hb=>(V9.o.2 b hb).1) om,rfl⟩,U.o.abu,Sq,abx,U.o.row.le,PU,λb hb=>?_,λb hb=>?_⟩
         .rcases hb with hb|hb|hb|⟨s9,Od,ad,e9,rfl⟩
          .have:=(Ln.o.2 b hb).1;omega
          .have:=(V9.o.2 b hb).1;omega
          .have:=(U.o.row.af hb).1;omega
          .have:=(U.o.el s9 Od).2.2.2.o ad e9;omega
         .rcases hb with hb|hb|hb|⟨s9,Od,ad,e9,rfl⟩
          .have:=(Ln.o.2 b hb).2;exact bu this C.o.k2.size
          .have:=(V9.o.2 b hb).2;exact bu this C.o.k2.size
          .exact(U.o.row.af hb).2.1
          .exact U.o.lt s9 Od ad e9)
        have HKW:Hx (Ke (λb=>b=g\/b=vb) v wr):=C.o.k;have HRW:Hx (iM p wr g V5):=C.o.r;clear T S HM;rcases FSq with t1|⟨t1,rfl⟩
        all_goals
         go_wp2_with fail
         obtain⟨rfl,rfl⟩:=HV.o;obtain⟨W9,M⟩:=lg ((((((((((wr.setCell (w.1.size,0) z0).setCell (w.1.size,1) (.int .i64 K)).setCell (w.1.size,2) f1).setCell (w.1.size,3) f2).setCell (w.1.size,4) f3).setCell (w.1.size,5) f4).setCell (w.1.size,6) f5).setCell (w.1.size,7) (.slice P zs cS)).setCell (w.1.size,8) (.slice I is cI)).setCell (w.1.size,9) (.slice R O c3));rw[<-M];have k9:Kf (λb=>b=w.1.size) (λb=>b=w.1.size) wr W9:=by rw[M];exact abv
         have b9:=(((((((((hrb.ax 0 z0).ax 1 (.int .i64 K)).ax 2 f1).ax 3 f2).ax 4 f3).ax 5 f4).ax 6 f5).ax 7 (.slice P zs cS)).ax 8 (.slice I is cI)).ax 9 (.slice R O c3);rw[<-M]at b9;have r0:=b9.cell 0;have r1:=b9.cell 1;have r2:=b9.cell 2;have r3:=b9.cell 3;have r4:=b9.cell 4;have r5:=b9.cell 5;have r6:=b9.cell 6;have r7:=b9.cell 7;have r8:=b9.cell 8;have r9:=b9.cell 9;clear M;refine a8 (v:=.agg #[z0,K,f1,f2,f3,f4,f5,.slice P zs cS,.slice I is cI,.slice R O c3]) (by simp[results,results48,go_sem,r0,r1,r2,r3,r4,r5,r6,r7,r8,r9]) rfl ?_;have hwv:w.1.size<v.1.size:=by have:=HVB.o;omega
         have m:=FQ.o.kf k9 λb hb e9=>by have:=FQ.o.lo b hb;omega
         have nd2:pN w.1.size W9 _:=⟨m.s,m.i,m.p,m.ls,m.li,m.lp,m.k6,λb hb=>aO (gV hwv) (m.lo b hb),m.hi⟩;exact⟨⟨⟨z0,K,f1,f2,f3,f4,f5,zs⟩,P,zs.length,cS,I,is.length,cI,is,R,O.length,c3,O⟩,rfl,ae (by show(⟨_,is,aW O⟩:dV)=_;rw[Yv.o]),ae nd2,ae (HRW.o.kf k9 (λb e9=>by have:=h.o.hg;omega) λe9=>by omega),ae (aag (vb:=vb) ai HKW k9 (by have:=HVB.o;omega)),k9.prev λb e9=>by have:=h.o.hg;omega⟩
end
end
variable{u:World}{b:Nat}{E:Int}
def t7(zs:av):Int:=if zs.length<8 then 16 else if num (zs.drop (zs.length-4))=ip 0 (zs.take (zs.length-4))then 0 else 30
section
variable{w:World}{n o k:Nat}
def GA:∀(zs:av) (i:Nat),i+zs.length<=4000->(∀z∈zs,0<=z/\z<256)->0<=ip i zs/\ip i zs<=zs*1020000
 |[],i,_,_=>by simp[ip]
 |z::t,i,h,e=>by
  have j:=e z cm;rw[dm]at h;have m:=GA t (i+1) om λx l=>e x (dl _ l);have r:0<=((i:Int)+1)*z:=iC om j.1;have y:((i:Int)+1)*z<=4000*255:=kn om om j.1 ak;rw[ip,dm];omega
def Lo(zs:av):∀v∈zs.map (Value.int .u8),v.oneCell'=true:=λv hv=>by
 obtain⟨z,_,rfl⟩:=bC.1 hv;rfl
def Jt[s:Bs w (some ⟨b,o,none⟩) n zs](hn:n<=1000000):() 91 #[.slice (some ⟨b,o,none⟩) n c] w (λe w'=>∃A c,e=.returned (.slice A n c)/\Bs w' A n zs/\n<=c/\aj w' w):=by
 obtain⟨i,hi,l⟩:=bD.1 (show(prog.info? 5).map (λi=>(i.zero,i.size,i.bytes))=some (some (.int .u8 0),1,1)from by kernel_rfl);simp only[dL]at l;obtain⟨m,r,y⟩:=l;have G:n=zs:=s.len;have p1:aj (w.alloc (.cells #[] 5)) w:=ao;have L:(w.alloc (.cells #[] 5)).ownsRow w.1.size 5 1 (w,0,0) 0 []:=aI.mk' (cur:= #[]) (an _) (hx w _) (an _) (aT _) rfl rfl;have O:Bs (w.alloc (.cells #[] 5)) (some ⟨b,o,none⟩) n zs:=ao;have R:=λQ=>vN (P:=prog) (w.alloc (.cells #[] 5)) w.1.size 22 Q 5 i _ 1 1 aq hi m r y rfl ak _ 0 _ L ⟨b,o,none⟩ n c (zs.map (Value.int .u8)) (by simp[G]) (λk u hu=>by
  rw[bj]at hu;obtain⟨z,C,rfl⟩:=bD.1 hu;rw[bQ];obtain⟨b',o',e,hb,I,_⟩:=O.rd k z C;cases e;exact I) (Lo zs) (by unfold maxLen;omega) om aG
 obtain⟨S,w',hr,B,hg,-,-⟩:=R 22;have T:∀W,(binOp .eql 22 (.slice (some ⟨b,o,none⟩) n c) ()).run prog W=.ok (.bool false) W:=λW=>Lib.run_eql_slice_nil W 22 5 _ _ _ _ _ aq;have U:=ae B;have V:=ae hg;have M:=ae G;have X:=ae s.all;clear R L B hg G hi m r y
 go_in
 go_wp2_with (at_builtin;refine Lib.wpList_append_run _ rfl _ _ 22 22 rfl _ _ rfl rfl _ _ hr ?_)
 go_ret;have hb:Below w.1.size w w':=((aY w.1.size w).alloc (an _) _).grown V aG (λk D=>by
  rw[b0]at D;injection D with D
  show w.1.size<=k
  exact dE D)
 have E:=U.o;rw[bX,kj]at E;have Y:∀J K,S=.slice J n K->aI w' w.1.size 5 1 J K n (zs.map (Value.int .u8)):=λJ K e=>by rw[e]at E;exact E
 rcases E.2 with⟨rfl,Z⟩|⟨g,cap,cur,rfl,_⟩
 .have N:=M.o;rw[Z]at N⊢;obtain rfl:zs=[]:=jY N.symm;exact⟨none,0,rfl,⟨λj z F=>by simp at F,rfl⟩,an _,⟨hb⟩⟩
 .have hr:=Y _ _ rfl;refine⟨_,_,rfl,⟨λj z F=>?_,M⟩,hr.le,⟨hb⟩⟩;obtain⟨g',e,I⟩:=hr.cell (j:=j) (v:=.int .u8 z) (by rw[bj,F];rfl);have C:=X.o z (aC F);exact⟨g',0,e,hr.lt _ e,by rw[bX];exact I,C.1,C.2⟩
def SB(w:ay)(L:av)(e:Ending)(w':ay):Prop:=∃g p,e=.returned (.tuple #[.pointer (some ⟨g,0,none⟩),au])/\aj p w/\Hx (iM p w' g (some L))/\aj w' p
def Of(h:n<8):() 45 #[(A,n,c)] w (aD w (.tuple #[.pointer none,(16:Int)])):=by
 have d1:decide ((n:Int)<8)=true:=by simp;omega
 go_in
 go_wp2_with fail
 go_ret2;exact bq
def y4[s:Bs w A n zs](hn:n<=4000)(Q:n<=c)(h:8<=n)(hE:Hx (t7 zs=E)):
  () 45 #[(A,n,c)] w (λe w'=>if E=0 then SB w (zs.take (n-4)) e w' else aD w (.tuple #[.pointer none,(30:Int)]) e w'):=by
 have CB:=@aa;have FB:=@aP;obtain⟨b,o,z,rfl,ob,-,-,-,-⟩:=s.get (k:=0) om;have hl:n=zs:=s.len;have r:=s.all;obtain⟨m,hm⟩:∃m,n=m+4:=⟨n-4,om⟩;have j:=qh (zs:=zs.drop m) λz R=>r z (dC R);have B:=GA (zs.take m) 0 (by rw[bB];omega) λz R=>r z (cG R);rw[dZ]at j;rw[bB]at B;have e4:zs.length-m=4:=om;rw[e4]at j;have p4:(256:Int)^4=4294967296:=by decide
 rw[p4]at j;have C:=hE.o;rw[t7,ag om,show zs.length-4=m from om]at C;rw[show n-4=m from om];obtain⟨A',S,T⟩:=sY b o n c m om Q;obtain rfl:=T om;have sD:Bs w (some ⟨b,o+m,none⟩) 4 (zs.drop m):=by
  have:=s.drop (k:=m);rwa[show n-m=4 from om]at this
 have sT:Bs w (some ⟨b,o,none⟩) m (zs.take m):=s.take om;obtain⟨O,F⟩:=lh (num (zs.drop m));obtain⟨I,G⟩:=lh (ip 0 (zs.take m));rw[F]at j C;rw[G]at B C;have U:=ae F;have V:=ae G;have l:Hx ((zs.drop m).length=4):=ae (by rw[dZ];omega);have w1:IntKind.u64.wrap I=I:=by rw[bg];omega
 have hw4:IntKind.i64.wrap ((n:Int)-4)=(m:Int):=by rw[aV];omega
 have HE:=ae C;have X:m<=4000:=om;have hmc:m<=c:=om;clear hl r j B e4 p4 C F G
 go_in
 go_upto_region 5 with fail
 refine aw (λu0 Y k0=>?_);have Z:Hx (iM w u0 w.1.size (some (zs.drop m))):=ae ⟨by rw[l.o];decide,Y,⟨some ⟨b,o+m,none⟩,c-m,by rw[l.o];exact k0.al,by rw[l.o];exact sD,by rw[l.o];omega⟩,an _⟩;have HG4:Hx (bk 4 (some (zs.drop m))=(O,some ((zs.drop m).drop 4))):=ae (by
  unfold bk;dsimp only;rw[ag (by rw[l.o];omega),bR (by rw[l.o];exact an _),U.o])
 have J:∀W:World,aj W w->() 92 #[.slice (some ⟨b,o,none⟩) m c] W (aD W (.int .u32 I)):=λW pW=>by
  rw[<-V.o];exact Lh X
 have L:=ae J;clear J S;refine aH w aq (λP _=>?_);refine qL [1,2,3] ?_;refine aM 0 λK hK=>?_;have M:=Z.o.at (w':=P);go_simp
 (with_reducible refine(eF (k:=4) (y:=4) (ae M) rfl ak ak HG4).mono ?_)
 rintro e P ⟨rfl,-,-,su⟩;dsimp only;refine aL hK ?_ su;clear hK K M;refine aM 4 λK hK=>?_;go_simp
 (with_reducible refine(L.o P ao).mono ?_)
 rintro e P ⟨rfl,_⟩;dsimp only;refine aL hK ?_;refine qL [5,6] ?_;refine aZ ?_;rename World=>uy;by_cases hq:O=I
 .have C:(0:Int)=E:=by have:=HE.o;rwa[ah hq]at this
  subst C;have b0:(O !=I)=false:=by simp[hq]
  clear hq
  go_wp2_with (go_at_call 91;refine(Jt om).mono ?_;rintro e N ⟨A5,c5,rfl,s5,l5,pu5⟩)
  go_ret2;have D:(zs.take m).length=m:=sT.len.symm;exact⟨N.1.size,N,rfl,ab w N,ae ⟨by rw[D];omega,ab N _,⟨A5,c5,by rw[D];exact aB.new _ _ _,by rw[D];exact s5,by rw[D];exact l5⟩,an _⟩,ab N _⟩
 .have C:(30:Int)=E:=by have:=HE.o;rwa[ag hq]at this
  subst C;have b0:(O !=I)=true:=by simp[hq]
  clear hq
  go_wp2_with fail
  go_ret2;exact⟨rfl,ab w uy⟩
end
