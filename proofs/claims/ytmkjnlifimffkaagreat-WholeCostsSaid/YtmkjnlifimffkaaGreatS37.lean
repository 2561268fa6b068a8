/- Lemmas. No condition. -/
import Derived.Laws.BitsLemmas
import Derived.Test.YtmkjnlifimffkaaGreatS25
namespace Go.Proofs.YtmkjnlifimffkaaGreat
open Go.RowKit
set_option linter.all false
set_option maxRecDepth 100000
set_option maxHeartbeats 16000000
class Bs(w:World)(A:Option Addr)(n:Nat)(zs:outParam (List Int)):Prop where
 rd:∀(j:Nat) (z:Int),zs[j]?=some z->∃b off,A=some ⟨b,off,none⟩/\b<w.heap.size/\w.cell? ⟨b,off+j,none⟩=some (.int .u8 z)/\0<=z/\z<256
 len:n=zs.length
section
variable{p w w':World}{A B:Option Addr}{n m c d g k:Nat}{zs L:List Int}{sh:Bool}
instance(priority:=low) Bs.step[p:ak w' w][h:Bs w A n zs]:Bs w' A n zs:=⟨fun j z l=>by
 obtain⟨b,off,e,hb,r,u⟩:=h.rd j z l;exact⟨b,off,e,bV hb p.st.size,(p.st.cell (p:=⟨b,off+j,none⟩) hb).trans r,u⟩,h.len⟩
theorem Bs.get(h:Bs w A n zs){k:Nat}(j:k<n):∃b off z,A=some ⟨b,off,none⟩/\Old b w/\w.cell? ⟨b,off+k,none⟩=some (.int .u8 z)/\0<=z/\z<256/\Hid (zs[k]?=some z):=by
 have e:zs[k]?=some (zs[k]'(by rw[<-h.len];exact j)):=aW _;obtain⟨b,off,rfl,hb,l,r,u⟩:=h.rd k _ e;exact⟨b,off,_,rfl,⟨hb⟩,l,r,u,ae e⟩
theorem Bs.drop{b off:Nat}(h:Bs w (some ⟨b,off,none⟩) n zs):Bs w (some ⟨b,off+k,none⟩) (n-k) (zs.drop k):=by
 refine⟨fun j z l=>?_,by rw[h.len,jY]⟩;rw[lD]at l;obtain⟨b',r,e,hb,u,y⟩:=h.rd (k+j) z l;injection e with e;injection e with C D;subst C D
 exact⟨b,off+k,rfl,hb,by rw[C8];exact u,y⟩
theorem Bs.take(h:Bs w A n zs)(e:k<=n):Bs w A k (zs.take k):=by
 refine⟨fun j z b=>?_,by rw[dO,<-h.len,iY e]⟩;rw[l7]at b
 split at b
 ·exact h.rd j z b
 ·cases b
theorem Bs.nil:Bs w A 0 []:=⟨fun j z b=>by simp at b,rfl⟩
theorem Bs.all(h:Bs w A n zs):∀z∈zs,0<=z/\z<256:=fun z b=>by
 obtain⟨j,e⟩:=jF b;obtain⟨_,_,_,_,_,l⟩:=h.rd j z e;exact l
def num(zs:List Int):Int:=zs.foldl (fun n z=>n*256+z) 0
theorem aoO(zs:List Int)(z:Int):num (zs++[z])=num zs*256+z:=by simp[num]
theorem acD:∀(zs:List Int) (n:Int) (a:Nat),0<=n->n<256^a->(∀z∈zs,0<=z/\z<256)->0<=zs.foldl (fun n z=>n*256+z) n/\zs.foldl (fun n z=>n*256+z) n<256^(a+zs.length)
 |[],n,a,b,e,_=>⟨b,e⟩
 |z::t,n,a,b,e,h=>by
  have l:=h z dN;have:=acD t (n*256+z) (a+1) om (by rw[Pq];omega) fun x j=>h x (fI _ j);rw[yD,iJ,show a+(t.length+1)=a+1+t.length from om];exact this
theorem GK{zs:List Int}(h:∀z∈zs,0<=z/\z<256):0<=num zs/\num zs<256^zs.length:=by
 have:=acD zs 0 0 (jg _) ah h;rwa[fo]at this
theorem aoP{x z:Int}(e:0<=x)(l:x<72057594037927936)(j:0<=z)(r:z<256):bits .or .u64 (x*256) z=x*256+z:=by
 have b:(2:Int)^8=256:=by decide
 have:=Zq x z 8 e (by rw[b];omega) j (by rw[b];omega) om;rwa[b]at this
theorem aoQ{x z:Int}(u:0<=x)(E:x<256)(y:0<=z)(F:z<256):bits .or .i64 (x*256) z=x*256+z:=by
 obtain⟨n,rfl⟩:=eF u;obtain⟨m,rfl⟩:=eF y;have C:(n:Int)*256=((n*256:Nat):Int):=by omega
 have j:(2:Nat)^16=65536:=by decide
 have l:(2:Int)^16=65536:=by decide
 rw[C,(bits_nat .i64 16 ah (fun n h D=>by rw[l]at D;rw[bF];omega) (n*256) m (by rw[j];omega) (by rw[j];omega)).2];have e:n*256|||m=n*256+m:=by
  have:=Po (i:=8) (b:=m) om n;have r:(2:Nat)^8=256:=by decide
  rw[r]at this;rw[Ht];omega
 rw[e];omega
theorem aoR{m:Nat}(h:m<=7):(256:Int)^m<=72057594037927936:=by
 have b:=Nat.pow_le_pow_right (n:=256) ah h;have e:(256:Nat)^7=72057594037927936:=by decide
 rw[e]at b;have j:(256:Int)^m=((256^m:Nat):Int):=by rw[H8];rfl
 rw[j];exact Int.ofNat_le.2 b
theorem acE(b o n c k:Nat)(j:k<=n)(l:n<=c):
  ∃A',(∀w,(Instr.slice 22 (.slice (some ⟨b,o,none⟩) n c) (some (.int .i64 (k:Int))) none none).run Tryz.prog w=.ok (.slice A' (n-k) (c-k)) w)/\(k<n->A'=some ⟨b,o+k,none⟩):=by
 have hs:∀w,(sizeOf (Tryz.prog.elem 22)).run Tryz.prog w=.ok 1 w:=fun w=>by
  obtain⟨i,hi,e⟩:=bN.1 (show(Tryz.prog.info? (Tryz.prog.elem 22)).map (·.size)=some 1 from by kernel_rfl);simp[sizeOf,typeInfo,hi,e]
 refine⟨if c=k then some ⟨b,o,none⟩else(⟨b,o,none⟩:Addr).add k,fun w=>?_,fun h=>?_⟩
 ·rw[j4 w 22 (some ⟨b,o,none⟩) n c aj .i64 k om om,hs];simp[Result.andThen,sliced]
 ·rw[if_neg om,eu]
def getM(k:Nat)(L:List Int)(sh:Bool):Int×List Int×Bool:=if sh=true\/k<1\/8<k\/L.length<k then(0,L,true)else(num (L.take k),L.drop k,false)
structure wS(p w:World)(g:Nat)(L:List Int)(sh:Bool):Prop where
 prev:ak w p
 bx:∃A c,aD w g 124 #[.slice A L.length c,.bool sh]/\Bs p A L.length L/\L.length<=c
 hg:p.heap.size<=g
structure Kg(g:Nat)(w w':World):Prop where
 size:w.heap.size<=w'.heap.size
 keep:∀b,b<w.heap.size->b≠g->w'.heap[b]?=w.heap[b]?
 base:Below 0 w w'
theorem Kg.of[k:Later w w']:Kg g w w':=⟨k.st.size,fun b hb _=>k.st.block b hb,k.st.mono (aS _)⟩
theorem Kg.aF(h:Kg g w w')(i:Nat)(v:Value):Kg g w (w'.setCell ⟨g,i,none⟩ v):=
 ⟨by have:=h.size;simpa using this,fun b hb e=>by rw[dM w' ⟨g,i,none⟩ v b e];exact h.keep b hb e,h.base.setCell (p:=⟨g,i,none⟩) (aS _) _⟩
theorem wS.at(h:wS p w g L sh)[k:Later w w']:wS p w' g L sh:=by
 obtain⟨A,c,b,e⟩:=h.bx;exact⟨⟨dS h.prev.st k.st⟩,⟨A,c,b.at,e⟩,h.hg⟩
def aoS(p:World)(g:Nat)(w:World)(v:Int)(L:List Int)(sh:Bool)(e:Ending)(w':World):Prop:=e=.returned (.int .u64 v)/\Hid (wS p w' g L sh)/\Hid (Kg g w w')
theorem UU(h:Hid (wS p w g L sh)){k:Nat}(hk:k<100)(hL:L.length<=100000){v:Int}{L':List Int}{sh':Bool}(N:Hid (getM k L sh=(v,L',sh'))):Calls Tryz.prog 46 #[.pointer g,k] w (aoS p g w v L' sh'):=by
 obtain⟨CB,CP,FB⟩:=iK;obtain⟨A,c,r,bs,O⟩:=h.out.bx;have P:Bx w g 124 #[.slice A L.length c,.bool sh]:=⟨r⟩;have p9:=h.out.prev;clear r;have hg:=N.out;unfold getM at hg;go_enter Tryz.func46,Tryz.ntmps46;by_cases hb:sh=true\/k<1\/8<k\/L.length<k
 ·rw[if_pos hb]at hg;obtain⟨rfl,rfl,rfl⟩:0=v/\L=L'/\true=sh':=by simpa using hg
  clear hg N;have fin:∀u:World,ak u w->wS p (u.setCell ⟨g,1,none⟩ (.bool true)) g L true/\Kg g w (u.setCell ⟨g,1,none⟩ (.bool true)):=fun u _=>
   ⟨⟨⟨(aL p u).setCell (p:=⟨g,1,none⟩) h.out.hg _⟩,⟨A,c,P.blk.at.aF 1 _,bs,O⟩,h.out.hg⟩,Kg.of.aF 1 _⟩
  have l:=ae fin;clear fin;cases hs:sh with
  |true=>
   clear hb;subst hs
   go_wp2_with fail
   go_ret;obtain⟨f1,f2⟩:=l.out w ⟨bq _ _⟩;exact⟨rfl,ae f1,ae f2⟩
  |false=>
   subst hs;by_cases F:k<1
   ·have Q:decide ((k:Int)<1)=true:=by simp;omega
    clear hb
    go_wp2_with fail
    go_ret;obtain⟨f1,f2⟩:=l.out w ⟨bq _ _⟩;exact⟨rfl,ae f1,ae f2⟩
   ·have Q:decide ((k:Int)<1)=false:=by simp;omega
    by_cases G:8<k
    ·have R:decide ((8:Int)<k)=true:=by simp;omega
     clear hb F
     go_wp2_with fail
     go_ret;obtain⟨f1,f2⟩:=l.out w ⟨bq _ _⟩;exact⟨rfl,ae f1,ae f2⟩
    ·have R:decide ((8:Int)<k)=false:=by simp;omega
     have t3:decide (L.length<k)=true:=by
      rcases hb with h|h|h|h
      ·cases h
      ·exact absurd h F
      ·exact absurd h G
      ·simpa using h
     clear hb F G
     go_wp2_with fail
     go_ret;obtain⟨f1,f2⟩:=l.out w ⟨bq _ _⟩;exact⟨rfl,ae f1,ae f2⟩
 ·rw[if_neg hb]at hg;obtain⟨rfl,rfl,rfl⟩:num (L.take k)=v/\L.drop k=L'/\false=sh':=by simpa using hg
  simp only[not_or]at hb;obtain⟨S,s2,s3,s4⟩:=hb;obtain rfl:sh=false:=by simpa using S
  have Q:decide ((k:Int)<1)=false:=by simp;omega
  have R:decide ((8:Int)<k)=false:=by simp;omega
  have t3:decide ((L.length:Int)<k)=false:=by simp;omega
  obtain⟨b,off,z,rfl,ob,T,z0,z1,I⟩:=bs.get (k:=0) om;clear hg S T z0 z1 I;have y:=bs.all
  go_upto_region 6 with fail
  go_loop [5,39] (fun t i=>∃j:Nat,j<=k/\i=.int .i64 j/\t=.int .u64 (num (L.take j))) (fun _ i=>k-(intOf i).toNat)
  case atStart=>exact⟨0,aS _,rfl,rfl⟩
  case round=>
   obtain⟨j,hj,rfl,rfl⟩:=hrel;by_cases U:j<k
   ·obtain⟨G,o2,z,e,V,T,z0,z1,I⟩:=bs.get (k:=j) om;injection e with e;injection e with X Y;subst X Y
    have E:=GK (zs:=L.take j) fun z Z=>y z (gU Z);have hN:Hid (num (L.take (j+1))=num (L.take j)*256+z):=ae (by rw[take_at I.out,aoO]);obtain⟨x,J⟩:=lh (num (L.take j));rw[J]at E⊢;have HX:=ae J;clear J;have C:x<72057594037927936:=by
     have h1:=E.2;rw[dO]at h1;have h2:=aoR (m:=min j L.length) om;omega
    have w1:IntKind.u64.wrap (x*256)=x*256:=by rw[cZ];omega
    have w2:bits .or .u64 (x*256) z=x*256+z:=aoP E.1 C z0 z1;clear E C
    go_wp2_with fail
    exact⟨⟨j+1,om,by go_num,by rw[hN.out,HX.out]⟩,by simp[intOf];omega⟩
   ·obtain rfl:j=k:=om;obtain⟨A',hA,D⟩:=acE b off L.length c j om O;have K:=ae D;clear D
    go_wp2_with fail
    go_ret;refine⟨rfl,ae ⟨⟨(aL p w).setCell (p:=⟨g,0,none⟩) h.out.hg _⟩,⟨A',c-j,by rw[jY];exact aD.aF P.blk 0 _,?_,by rw[jY];omega⟩,h.out.hg⟩,ae (Kg.of.aF 0 _)⟩;rw[jY];by_cases M:j<L.length
    ·rw[K.out M];exact bs.drop
    ·rw[show L.drop j=[]from kL om,show L.length-j=0 from om];exact Bs.nil
end
def rV:Nat->List Int->Int
 |_,[]=>0
 |i,z::t=>((i:Int)+1)*z+rV (i+1) t
section
variable{w w':World}{A:Option Addr}{n c:Nat}{zs:List Int}
theorem Ow{x:Int}(b:0<=x)(e:x<4294967296):IntKind.u32.wrap x=x:=by
 show x%4294967296=x
 omega
theorem aoT[b:Bs w A n zs](G:n<=4000):Calls Tryz.prog 92 #[.slice A n c] w (aM w (.int .u32 (rV 0 zs))):=by
 have I:=@kQ;have B:Hid (n=zs.length):=ae b.len;go_enter Tryz.func92,Tryz.ntmps92
 go_wp2_with fail
 go_loopw [3,8] (fun s i wr=>∃(j:Nat) (S:Int),j<=n/\i=.int .i64 j/\s=.int .u32 S/\0<=S/\S<=(j:Int)*1020000/\Hid (S+rV j (zs.drop j)=rV 0 zs)/\ak wr w) (fun _ i _=>n-(intOf i).toNat)
 case atStart=>exact⟨0,0,aS _,rfl,rfl,ah,ah,ae au,ai _ _⟩
 case round=>
  obtain⟨j,S,J,rfl,rfl,K,L,u,hp⟩:=hrel;by_cases l:j<n
  ·obtain⟨M,o1,z,rfl,C,N,z0,z1,D⟩:=b.get l;obtain⟨q,hq⟩:=lh (((j:Int)+1)*z);have q0:0<=q:=by rw[<-hq];exact vP om z0
   have O:q<=1020000:=by
    have y:=yI (show(j:Int)+1<=4000 by omega) (show z<=255 by omega) z0 ah;rw[hq]at y;exact y
   have m:Hid ((S+q)+rV (j+1) (zs.drop (j+1))=rV 0 zs):=ae (by
    obtain⟨E,F⟩:=aY.1 D.out;rw[<-u.out,jE E,F,rV,hq,Int.add_assoc])
   have k1:IntKind.u32.wrap ((j:Int)+1)=(j:Int)+1:=Ow om om;have k2:IntKind.u32.wrap z=z:=Ow om om;have P:IntKind.u32.wrap (((j:Int)+1)*z)=q:=by rw[hq];exact Ow (by omega) (by omega)
   have Q:IntKind.u32.wrap (S+q)=S+q:=Ow om om;have e:S+q<=((j:Int)+1)*1020000:=by omega
   have r:=ae e;clear hq e
   go_wp2_with fail
   go_roundw
   case rel=>exact⟨j+1,S+q,om,by go_num,rfl,om,by have:=r.out;rwa[mF],m,ai _ _⟩
   case measure=>simp[intOf];omega
  ·obtain rfl:j=n:=om;have hs:S=rV 0 zs:=by have:=u.out;rw[kL (by rw[<-B.out];exact az _)]at this;simpa[rV]using this
   subst hs
   go_wp2_with fail
   go_ret;exact⟨rfl,ai _ _⟩
def aoU(L:List Int)(sh:Bool):Int:=if sh=true then 16 else if L=[]then 0 else 10
theorem acF{p:World}{g:Nat}{L:List Int}{sh:Bool}(h:Hid (wS p w g L sh)):Calls Tryz.prog 49 #[.pointer g] w (aM w (.int .i64 (aoU L sh))):=by
 have l:=@bf;obtain⟨A,c,e,-,-⟩:=h.out.bx;have j:Bx w g 124 #[.slice A L.length c,.bool sh]:=⟨e⟩;clear e;cases sh
 case true=>
  go_enter Tryz.func49,Tryz.ntmps49
  go_wp2_with fail
  go_ret;exact⟨rfl,ai _ _⟩
 case false=>
  cases L with
  |nil=>
   go_enter Tryz.func49,Tryz.ntmps49
   go_wp2_with fail
   go_ret;exact⟨rfl,ai _ _⟩
  |cons x t=>
   obtain⟨n,b⟩:=lh ((x::t).length);have m:0<n:=by rw[<-b];simp
   rw[b]at j;clear b;go_enter Tryz.func49,Tryz.ntmps49
   go_wp2_with fail
   go_ret;exact⟨rfl,ai _ _⟩
end
def bE(k:Nat):Option (List Int)->Int×Option (List Int)
 |none=>(0,none)
 |some L=>if L.length<k then(0,none)else(num (L.take k),some (L.drop k))
def jm:Nat->Option (List Int)->List Int×Option (List Int)
 |0,o=>([],o)
 |c+1,o=>if(bE 2 o).2=none then([],none)else if(jm c (bE 2 o).2).2=none then([],none)else((bE 2 o).1::(jm c (bE 2 o).2).1,(jm c (bE 2 o).2).2)
def lY(o:Option (List Int)):List Int×Option (List Int):=jm (bE 1 o).1.toNat (bE 1 o).2
def nN:Nat->Option (List Int)->List Int×Option (List Int)
 |0,o=>([],o)
 |_+1,none=>([],none)
 |c+1,some L=>((bE 2 (some L)).1::(nN c (bE 2 (some L)).2).1,(nN c (bE 2 (some L)).2).2)
def oP:Nat->Option (List Int)->List (List Int)×Option (List Int)
 |0,o=>([],o)
 |_+1,none=>([],none)
 |c+1,some L=>((lY (some L)).1::(oP c (lY (some L)).2).1,(oP c (lY (some L)).2).2)
abbrev eY:=Option (List Int)
structure NdP where
 k0:Int×eY
 k1:Int×eY
 f1:Int×eY
 f2:Int×eY
 f3:Int×eY
 f4:Int×eY
 f5:Int×eY
 s:List Int×eY
 ci:Int×eY
 i:List Int×eY
 cp:Int×eY
 p:List (List Int)×eY
def ug(o:eY):NdP:=
 let k0:=bE 1 o
 let k1:=bE 8 k0.2
 let f1:=bE 2 k1.2
 let f2:=bE 2 f1.2
 let f3:=bE 2 f2.2
 let f4:=bE 2 f3.2
 let f5:=bE 2 f4.2
 let s:=lY f5.2
 let ci:=bE 1 s.2
 let i:=nN ci.1.toNat ci.2
 let cp:=bE 1 i.2
 ⟨k0,k1,f1,f2,f3,f4,f5,s,ci,i,cp,oP cp.1.toNat cp.2⟩
def yf(o:eY):dJ×eY:=(⟨⟨(ug o).k0.1,IntKind.i64.wrap (ug o).k1.1,(ug o).f1.1,(ug o).f2.1,(ug o).f3.1,(ug o).f4.1,(ug o).f5.1,(ug o).s.1⟩,(ug o).i.1,(ug o).p.1⟩,(ug o).p.2)
def nO:Nat->eY->List dJ×eY
 |0,o=>([],o)
 |_+1,none=>([],none)
 |c+1,some L=>((yf (some L)).1::(nO c (yf (some L)).2).1,(nO c (yf (some L)).2).2)
def jC:Nat->Int->List Int
 |0,_=>[]
 |k+1,n=>n/256^k%256::jC k n
def encS(S:List Int):List Int:=jC 1 S.length++S.flatMap (jC 2)
def ED(v:dJ):List Int:=jC 1 v.o.kd++jC 8 (IntKind.u64.wrap v.o.k)++jC 2 v.o.wd++jC 2 v.o.st++jC 2 v.o.sd++jC 2 v.o.fr++jC 2 v.o.tt++encS v.o.S++jC 1 v.ins.length++v.ins.flatMap (jC 2)++jC 1 v.P.length++v.P.flatMap encS
def UW(N:aI):List Int:=jC 4 1096042545++encS N.inp++jC 2 N.nodes.length++N.nodes.flatMap ED
structure DcP where
 m4:Int×eY
 inp:List Int×eY
 c:Int×eY
 nd:List dJ×eY
def qo(L:List Int):DcP:=
 let m4:=bE 4 (some L)
 let inp:=lY m4.2
 let c:=bE 2 inp.2
 ⟨m4,inp,c,nO c.1.toNat c.2⟩
def rW(L:List Int):aI:=⟨(qo L).inp.1,(qo L).nd.1⟩
section
variable{k m c:Nat}{L L' zs:List Int}{o:eY}{n x a z:Int}
theorem UX:∀(zs:List Int) (n:Int),zs.foldl (fun n z=>n*256+z) n=n*256^zs.length+num zs
 |[],n=>by simp[num]
 |z::t,n=>by
  have b:=UX t (n*256+z);have e:=UX t (0*256+z);unfold num;rw[yD,yD,b,e,iJ,Int.pow_succ',xh,xh,<-uw];omega
theorem aoX(z:Int)(t:List Int):num (z::t)=z*256^t.length+num t:=by
 have:=UX t (0*256+z);unfold num at this⊢;rw[yD,this,aeF,Pp]
theorem GL(m:Nat):(0:Int)<256^m:=Pw ah
theorem acG:∀(k:Nat) (n:Int),(jC k n).length=k
 |0,_=>rfl
 |k+1,n=>by rw[jC,iJ,acG k n]
theorem acH(a x:Int)(m:Nat):∀k,k<=m->jC k (a*256^m+x)=jC k x
 |0,_=>rfl
 |k+1,h=>by
  rw[jC,jC,acH a x m k om];obtain⟨j,rfl⟩:∃j,m=k+(j+1):=⟨m-k-1,om⟩;have e:a*(256:Int)^(k+(j+1))=256^k*(a*256^j*256):=by
   rw[WQ,Pq,sH (256^k),<-uw,<-uw];exact sH _ _
  rw[e,Int.mul_add_ediv_left _ _ (Int.ne_of_gt (GL k)),WN,aez]
theorem acI:∀zs:List Int,(∀z∈zs,0<=z/\z<256)->jC zs.length (num zs)=zs
 |[],_=>rfl
 |z::t,h=>by
  have e:=h z dN;have ht:∀y∈t,0<=y/\y<256:=fun y b=>h y (fI _ b);have hb:=GK ht;rw[iJ,jC,aoX,acH _ _ _ _ (az _),acI t ht,sH z,Int.mul_add_ediv_left _ _ (Int.ne_of_gt (GL _)),Ws hb.1 hb.2,LX];rw[show z%256=z from om]
abbrev lZ(L:List Int):Prop:=∀z∈L,0<=z/\z<256
theorem uh(h:lZ L)(b:(bE k (some L)).2=some L'):L=jC k (bE k (some L)).1++L'/\lZ L'/\0<=(bE k (some L)).1/\(bE k (some L)).1<256^k:=by
 unfold bE at b⊢;dsimp only at b⊢
 split at b
 ·cases b
 ·rename_i u;rw[if_neg u];have e:=eP b;subst e;have ht:lZ (L.take k):=fun z j=>h z (gU j);have l:=acI (L.take k) ht;have r:(L.take k).length=k:=by rw[dO];omega
  rw[r]at l;have hb:=GK ht;rw[r]at hb;exact⟨by rw[l,iX],fun z j=>h z (jo j),hb⟩
theorem AZ(h:(bE k o).2=some L'):∃L,o=some L:=by
 cases o with
 |none=>cases h
 |some L=>exact⟨L,rfl⟩
theorem acJ:∀(c:Nat) {L L':List Int},lZ L->(jm c (some L)).2=some L'->L=(jm c (some L)).1.flatMap (jC 2)++L'/\lZ L'/\(jm c (some L)).1.length=c
 |0,L,L',h,e=>by
  have e:=eP e;subst e;exact⟨by simp[jm],h,rfl⟩
 |c+1,L,L',h,e=>by
  unfold jm at e⊢
  split at e
  ·cases e
  ·rename_i j;rw[if_neg j]
   split at e
   ·cases e
   ·rename_i l;rw[if_neg l];obtain⟨D,b⟩:=Option.ne_none_iff_exists'.1 j;obtain⟨r,u,_⟩:=uh h b;rw[b]at e⊢;obtain⟨y,B,C⟩:=acJ c u e;refine⟨?_,B,by rw[iJ,C]⟩;dsimp only;rw[sG,jX,<-y];exact r
theorem acK(c:Nat):(jm c none).2=none:=by
 cases c<;>simp[jm,bE]
theorem aoY:(lY none).2=none:=acK _
theorem UY(h:lZ L)(e:(lY (some L)).2=some L'):L=encS (lY (some L)).1++L'/\lZ L'/\(lY (some L)).1.length<256:=by
 unfold lY at e⊢;cases b:(bE 1 (some L)).2 with
 |none=>rw[b,acK]at e;cases e
 |some j=>
  rw[b]at e;obtain⟨l,r,D,E⟩:=uh h b;obtain⟨u,y,B⟩:=acJ _ r e;have C:((jm (bE 1 (some L)).1.toNat (some j)).1.length:Int)=(bE 1 (some L)).1:=by rw[B];omega
  refine⟨?_,y,om⟩;rw[encS,C,jX,<-u];exact l
theorem acL:∀(c:Nat) {L L':List Int},lZ L->(nN c (some L)).2=some L'->L=(nN c (some L)).1.flatMap (jC 2)++L'/\lZ L'/\(nN c (some L)).1.length=c
 |0,L,L',h,e=>by
  have e:=eP e;subst e;exact⟨by simp[nN],h,rfl⟩
 |c+1,L,L',h,e=>by
  unfold nN at e⊢;dsimp only at e⊢;cases b:(bE 2 (some L)).2 with
  |none=>rw[b]at e;cases c<;>cases e
  |some B=>
   obtain⟨j,l,_⟩:=uh h b;rw[b]at e;obtain⟨r,u,y⟩:=acL c l e;refine⟨?_,u,by rw[iJ,y]⟩;rw[sG,jX,<-r];exact j
theorem acM:∀(c:Nat) {L L':List Int},lZ L->(oP c (some L)).2=some L'->L=(oP c (some L)).1.flatMap encS++L'/\lZ L'/\(oP c (some L)).1.length=c/\∀s∈(oP c (some L)).1,s.length<256
 |0,L,L',h,e=>by
  have e:=eP e;subst e;exact⟨by simp[oP],h,rfl,fun s hs=>by simp[oP]at hs⟩
 |c+1,L,L',h,e=>by
  unfold oP at e⊢;dsimp only at e⊢;cases b:(lY (some L)).2 with
  |none=>rw[b]at e;cases c<;>cases e
  |some D=>
   obtain⟨j,l,r⟩:=UY h b;rw[b]at e;obtain⟨u,y,B,C⟩:=acM c l e;refine⟨?_,y,by rw[iJ,B],fun s hs=>?_⟩
   ·rw[sG,jX,<-u];exact j
   ·rcases dz.1 hs with rfl|hs
    ·exact r
    ·exact C s hs
theorem aoZ(h:(nN c o).2=some L'):∃L,o=some L:=by
 cases o with
 |none=>cases c<;>cases h
 |some L=>exact⟨L,rfl⟩
theorem ao0(h:(oP c o).2=some L'):∃L,o=some L:=by
 cases o with
 |none=>cases c<;>cases h
 |some L=>exact⟨L,rfl⟩
theorem acN(h:(lY o).2=some L'):∃L,o=some L:=by
 cases o with
 |none=>rw[aoY]at h;cases h
 |some L=>exact⟨L,rfl⟩
theorem ao1{x:Int}(b:0<=x)(e:x<18446744073709551616):IntKind.u64.wrap (IntKind.i64.wrap x)=x:=by
 rw[cZ,bF];omega
structure UZ(v:dJ):Prop where
 s:v.o.S.length<256
 i:v.ins.length<256
 p:v.P.length<256
 ps:∀s∈v.P,s.length<256
theorem ao2(h:lZ L)(e:(yf (some L)).2=some L'):L=ED (yf (some L)).1++L'/\lZ L'/\UZ (yf (some L)).1:=by
 have e:(ug (some L)).p.2=some L':=e;obtain⟨P,hP⟩:=lh (ug (some L));have O:P.k0=bE 1 (some L):=by rw[<-hP];rfl
 have T:P.k1=bE 8 P.k0.2:=by rw[<-hP];rfl
 have a3:P.f1=bE 2 P.k1.2:=by rw[<-hP];rfl
 have a4:P.f2=bE 2 P.f1.2:=by rw[<-hP];rfl
 have U:P.f3=bE 2 P.f2.2:=by rw[<-hP];rfl
 have V:P.f4=bE 2 P.f3.2:=by rw[<-hP];rfl
 have X:P.f5=bE 2 P.f4.2:=by rw[<-hP];rfl
 have Y:P.s=lY P.f5.2:=by rw[<-hP];rfl
 have Z:P.ci=bE 1 P.s.2:=by rw[<-hP];rfl
 have y:P.i=nN P.ci.1.toNat P.ci.2:=by rw[<-hP];rfl
 have B:P.cp=bE 1 P.i.2:=by rw[<-hP];rfl
 have C:P.p=oP P.cp.1.toNat P.cp.2:=by rw[<-hP];rfl
 unfold yf;rw[hP]at e⊢;rw[C]at e;obtain⟨L11,b⟩:=ao0 e;rw[B]at b;obtain⟨L10,j⟩:=AZ b;rw[y]at j;obtain⟨L9,D⟩:=aoZ j;rw[Z]at D;obtain⟨L8,E⟩:=AZ D;rw[Y]at E;obtain⟨L7,F⟩:=acN E;rw[X]at F;obtain⟨L6,G⟩:=AZ F;rw[V]at G;obtain⟨L5,I⟩:=AZ G;rw[U]at I;obtain⟨L4,J⟩:=AZ I;rw[a4]at J;obtain⟨L3,K⟩:=AZ J;rw[a3]at K;obtain⟨L2,M⟩:=AZ K;rw[T]at M;obtain⟨L1,Q⟩:=AZ M;rw[O]at Q;rw[<-O]at Q;have t1:=uh h (O▸Q);rw[<-O]at t1;rw[Q]at T M;have N:=uh t1.2.1 M;rw[<-T]at N M;rw[M]at a3 K;have t3:=uh N.2.1 K;rw[<-a3]at t3 K;rw[K]at a4 J;have t4:=uh t3.2.1 J;rw[<-a4]at t4 J;rw[J]at U I;have t5:=uh t4.2.1 I;rw[<-U]at t5 I;rw[I]at V G;have t6:=uh t5.2.1 G;rw[<-V]at t6 G;rw[G]at X F;have t7:=uh t6.2.1 F;rw[<-X]at t7 F;rw[F]at Y E;have R:=UY t7.2.1 E;rw[<-Y]at R E;rw[E]at Z D;have S:=uh R.2.1 D;rw[<-Z]at S D;rw[D]at y j;have r:=acL _ S.2.1 j;rw[<-y]at r j;rw[j]at B b;have u:=uh r.2.1 b;rw[<-B]at u b;rw[b]at C e;have l:=acM _ u.2.1 e;rw[<-C]at l;have k2:IntKind.u64.wrap (IntKind.i64.wrap P.k1.1)=P.k1.1:=ao1 N.2.2.1 (by
  have:=N.2.2.2;have e:(256:Int)^8=18446744073709551616:=by decide
  rw[e]at this;exact this)
 have l1:((P.i.1.length:Nat):Int)=P.ci.1:=by rw[r.2.2];have:=S.2.2.1;omega
 have l2:((P.p.1.length:Nat):Int)=P.cp.1:=by rw[l.2.2.1];have:=u.2.2.1;omega
 refine⟨?_,l.2.1,R.2.2,by show P.i.1.length<256;omega,by show P.p.1.length<256;omega,l.2.2.2⟩;unfold ED;dsimp only;rw[k2,l1,l2];simp only[jX];rw[<-l.1,<-u.1,<-r.1,<-S.1,<-R.1,<-t7.1,<-t6.1,<-t5.1,<-t4.1,<-t3.1,<-N.1,<-t1.1]
theorem acO:∀(c:Nat) {L L':List Int},lZ L->(nO c (some L)).2=some L'->L=(nO c (some L)).1.flatMap ED++L'/\lZ L'/\(nO c (some L)).1.length=c/\∀v∈(nO c (some L)).1,UZ v
 |0,L,L',h,e=>by
  have e:=eP e;subst e;exact⟨by simp[nO],h,rfl,fun s hs=>by simp[nO]at hs⟩
 |c+1,L,L',h,e=>by
  unfold nO at e⊢;dsimp only at e⊢;cases b:(yf (some L)).2 with
  |none=>rw[b]at e;cases c<;>cases e
  |some D=>
   obtain⟨j,l,r⟩:=ao2 h b;rw[b]at e;obtain⟨u,y,B,C⟩:=acO c l e;refine⟨?_,y,by rw[iJ,B],fun s hs=>?_⟩
   ·rw[sG,jX,<-u];exact j
   ·rcases dz.1 hs with rfl|hs
    ·exact r
    ·exact C s hs
theorem ao3(h:(nO c o).2=some L'):∃L,o=some L:=by
 cases o with
 |none=>cases c<;>cases h
 |some L=>exact⟨L,rfl⟩
theorem ao4(h:lZ L)(hm:(qo L).m4.1=1096042545)(j:(qo L).nd.2=some []):UW (rW L)=L/\(rW L).inp.length<256/\(rW L).nodes.length<65536/\∀v∈(rW L).nodes,UZ v:=by
 unfold rW;obtain⟨P,hP⟩:=lh (qo L);have y:P.m4=bE 4 (some L):=by rw[<-hP];rfl
 have r:P.inp=lY P.m4.2:=by rw[<-hP];rfl
 have a3:P.c=bE 2 P.inp.2:=by rw[<-hP];rfl
 have a4:P.nd=nO P.c.1.toNat P.c.2:=by rw[<-hP];rfl
 rw[hP]at hm j⊢;rw[a4]at j;obtain⟨D,b⟩:=ao3 j;rw[a3]at b;obtain⟨E,e⟩:=AZ b;rw[r]at e;obtain⟨F,B⟩:=acN e;have u:=uh h (y▸B);rw[<-y]at u;rw[B]at r e;have l:=UY u.2.1 e;rw[<-r]at l e;rw[e]at a3 b;have t3:=uh l.2.1 b;rw[<-a3]at t3 b;rw[b]at a4 j;have t4:=acO _ t3.2.1 j;rw[<-a4]at t4;have l1:((P.nd.1.length:Nat):Int)=P.c.1:=by rw[t4.2.2.1];have:=t3.2.2.1;omega
 refine⟨?_,l.2.2,by show P.nd.1.length<65536;omega,t4.2.2.2⟩;unfold UW;dsimp only;have C:=t4.1;rw[oV]at C;rw[l1,<-hm];simp only[jX];rw[<-C,<-t3.1,<-l.1,<-u.1]
end
def jf(p w:World)(g:Nat):eY->Prop
 |some L=>L.length<=100000/\wS p w g L false
 |none=>∃L:List Int,L.length<=100000/\wS p w g L true
abbrev Ke(F:Nat->Prop)(w w':World):Prop:=Kf F F w w'
section
variable{p w w' u:World}{g k n c q B b:Nat}{o o':eY}{L zs xs:List Int}{sh:Bool}{F F':Nat->Prop}{A A':Option Addr}{E:TypeId}
theorem Kg.ke(h:Kg g w w'):Ke (fun b=>b=g) w w':=⟨h.base,h.size,fun b hb e=>h.keep b hb e,fun _ hb=>.inl hb⟩
theorem wS.kf(h:wS p w g L sh)(e:Kf F F' w w')(hF:∀b,F b->p.heap.size<=b)(hg:¬F g):wS p w' g L sh:=by
 obtain⟨A,c,j,m⟩:=h.bx;have l:=h.prev;exact⟨e.prev hF,⟨A,c,e.blk j hg,m⟩,h.hg⟩
theorem jf.kf(h:jf p w g o)(e:Kf F F' w w')(hF:∀b,F b->p.heap.size<=b)(hg:¬F g):jf p w' g o:=by
 cases o with
 |some L=>exact⟨h.1,h.2.kf e hF hg⟩
 |none=>obtain⟨L,j,l⟩:=h;exact⟨L,j,l.kf e hF hg⟩
theorem jf.at(h:jf p w g o)[Later w w']:jf p w' g o:=by
 cases o with
 |some L=>exact⟨h.1,h.2.at⟩
 |none=>obtain⟨L,e,j⟩:=h;exact⟨L,e,j.at⟩
theorem jf.prev(h:jf p w g o):ak w p:=by
 cases o with
 |some L=>exact h.2.prev
 |none=>obtain⟨L,j,e⟩:=h;exact e.prev
theorem jf.hg(h:jf p w g o):p.heap.size<=g/\g<w.heap.size:=by
 cases o with
 |some L=>obtain⟨A,c,e,_⟩:=h.2.bx;exact⟨h.2.hg,e.lt⟩
 |none=>obtain⟨L,e,j⟩:=h;obtain⟨A,c,l,_⟩:=j.bx;exact⟨j.hg,l.lt⟩
theorem jf.flag(h:jf p w g o):∃v cs,Bx w g 124 #[v,.bool cs]/\cs=o.isNone:=by
 cases o with
 |some L=>obtain⟨A,c,e,_⟩:=h.2.bx;exact⟨_,_,⟨e⟩,rfl⟩
 |none=>obtain⟨L,e,j⟩:=h;obtain⟨A,c,l,_⟩:=j.bx;exact⟨_,_,⟨l⟩,rfl⟩
theorem jf.byt(h:jf p w g (some L)):lZ L:=by
 obtain⟨A,c,j,e,_⟩:=h.2.bx;exact e.all
theorem U0(h:jf p w g o)(k:Nat):0<=(bE k o).1/\(bE k o).1<256^k:=by
 cases o with
 |none=>exact⟨jg _,GL k⟩
 |some L=>
  unfold bE;dsimp only
  split
  ·exact⟨jg _,GL k⟩
  ·rename_i j;have hb:=GK (zs:=L.take k) fun z e=>h.byt z (gU e);rw[dO,iY om]at hb;exact hb
def ao5(p:World)(g:Nat)(w:World)(v:Int)(o:eY)(e:Ending)(w':World):Prop:=e=.returned (.int .u64 v)/\Hid (jf p w' g o)/\Hid (Ke (fun b=>b=g) w w')/\ak w' p
theorem qQ(h:Hid (jf p w g o)){k:Nat}{y:Int}(G:y=(k:Int))(J:1<=k)(K:k<=8){v:Int}(I:Hid (bE k o=(v,o'))):Calls Tryz.prog 46 #[.pointer g,y] w (ao5 p g w v o'):=by
 subst G;have hg:=I.out;cases o with
 |none=>
  obtain⟨L,l,C⟩:=h.out;injection hg with m r
  subst m r;refine(UU (k:=k) (ae C) om l (v:=0) (L':=L) (sh':=true) (ae (by unfold getM;rw[if_pos (.inl rfl)]))).mono ?_;rintro e w' ⟨rfl,j,z⟩;exact⟨rfl,ae ⟨L,l,j.out⟩,ae z.out.ke,j.out.prev⟩
 |some L=>
  obtain⟨l,C⟩:=h.out;unfold bE at hg;dsimp only at hg
  split at hg
  ·rename_i D;injection hg with m r
   subst m r;refine(UU (k:=k) (ae C) om l (v:=0) (L':=L) (sh':=true) (ae (by unfold getM;rw[if_pos (.inr (.inr (.inr D)))]))).mono ?_;rintro e w' ⟨rfl,j,z⟩;exact⟨rfl,ae ⟨L,l,j.out⟩,ae z.out.ke,j.out.prev⟩
  ·rename_i D;injection hg with m r
   subst m r;refine(UU (k:=k) (ae C) om l (v:=num (L.take k)) (L':=L.drop k) (sh':=false) (ae (by unfold getM;rw[if_neg (by rintro(h|h|h|h)<;>first|(exact absurd h ah)|omega)]))).mono ?_;rintro e w' ⟨rfl,j,z⟩;exact⟨rfl,ae ⟨by rw[jY];omega,j.out⟩,ae z.out.ke,j.out.prev⟩
theorem Kf.U1(h:Ke F w u)(j:bS A A' u w')(l:∀ad,A=some ad->w.heap.size<=ad.block):Ke F w w':=
 ⟨(h.base.trans (j.base.mono (aS _))),aZ h.size j.size,fun b hb m=>(j.off b (bV hb h.size) fun ad e=>by have:=l ad e;omega).trans (h.keep b hb m),fun b hb=>.inl hb⟩
structure FrA(w w':World)(A:Option Addr)(zs:List Int):Prop where
 rd:Rd w' A zs
 lo:∀b,AF A b->w.heap.size<=b
 hi:∀b,AF A b->b<w'.heap.size
def ao6(p:World)(g:Nat)(w:World)(zs:List Int)(o:eY)(e:Ending)(w':World):Prop:=∃A c,e=.returned (.slice A zs.length c)/\FrA w w' A zs/\zs.length<=c/\Hid (jf p w' g o)/\Hid (Ke (fun b=>b=g) w w')/\ak w' p
theorem aG.fra(h:aG w' w.heap.size E A c zs):FrA w w' A zs:=⟨h.rd,fun _ hb=>(h.af hb).1,fun _ hb=>(h.af hb).2.1⟩
theorem U2(c:Nat)(o:eY):jm (c+1) o=if(bE 2 o).2=none then([],none)else if(jm c (bE 2 o).2).2=none then([],none)else((bE 2 o).1::(jm c (bE 2 o).2).1,(jm c (bE 2 o).2).2):=rfl
theorem Ox(h:Hid (jf p w g o))(hS:Hid (lY o=(xs,o'))):Calls Tryz.prog 47 #[.pointer g] w (ao6 p g w xs o'):=by
 have CB:=@bf;have hg0:=h.out.hg;have l:=U0 h.out 1;obtain⟨⟨cn,o1⟩,I⟩:=lh (bE 1 o);rw[I]at l;have hs:=hS.out;rw[lY,I]at hs;dsimp only at hs l;obtain⟨c,rfl⟩:=eF l.1;rw[dD]at hs;have hc:c<256:=by
  have m:(256:Int)^1=256:=by decide
  have:=l.2;omega
 have HG:=ae I;have HS:=ae hs;clear I hs l;go_enter Tryz.func47,Tryz.ntmps47
 go_upto_region 3 with(go_at_call 46;refine(qQ (k:=1) (y:=1) h rfl ah ah HG).mono ?_;rintro e u1 ⟨rfl,Z,uM,tJ⟩)
 have ho1:aG u1 w.heap.size 3 none 0 []:=aG.nil _ _ _;go_loopw [4,3] (fun s4 s3 wr=>∃(q r:Nat) (zs:List Int) (A:Option Addr) (c':Nat) (C:eY),q+r=c/\zs.length=q/\s4=.int .u64 (r:Int)/\s3=.slice A q c'/\Hid (aG wr w.heap.size 3 A c' zs)/\Hid (jf p wr g C)/\Hid (Ke (fun b=>b=g) w wr)/\Hid (C=none->zs=[])/\Hid ((if(jm r C).2=none then([],none)else(zs++(jm r C).1,(jm r C).2))=(xs,o'))/\ak wr p) (fun s4 _ _=>(intOf s4).toNat)
 case atStart=>
  refine⟨0,c,[],none,0,o1,om,rfl,rfl,rfl,ae ho1,Z,uM,ae (fun _=>rfl),ae ?_,tJ⟩;rw[<-HS.out];by_cases m:(jm c o1).2=none
  ·rw[if_pos m];have:∀(c:Nat) (o:eY),(jm c o).2=none->(jm c o).1=[]:=fun c o V=>by
    cases c with
    |zero=>rfl
    |succ c=>
     rw[U2]at V⊢
     split
     ·rfl
     ·rename_i h1;rw[if_neg h1]at V
      split
      ·rfl
      ·rename_i h2;rw[if_neg h2]at V;exact absurd V h2
   exact Prod.ext (this c o1 m).symm m.symm
  ·rw[if_neg m];rfl
 case round=>
  obtain⟨q,r,zs,A,c',C,Oy,Q,rfl,rfl,X,HR,Y,HN,HM,hp⟩:=hrel;by_cases hr:r=0
  ·subst hr;have hm:=HM.out;have e0:jm 0 C=([],C):=rfl;rw[e0]at hm;dsimp only at hm;have R:xs=zs/\o'=C:=by
    by_cases m:C=none
    ·rw[if_pos m]at hm;injection hm with m1 S
     exact⟨by rw[<-m1,HN.out m],by rw[<-S,m]⟩
    ·rw[if_neg m,oV]at hm;injection hm with m1 S
     exact⟨m1.symm,S.symm⟩
   obtain⟨rfl,rfl⟩:=R;subst Q;clear hm e0
   go_wp2_with fail
   go_ret;exact⟨A,c',rfl,X.out.fra,X.out.uB,HR,Y,hp⟩
  ·obtain⟨G,rfl⟩:∃G,r=G+1:=⟨r-1,om⟩;have l:=U0 HR.out 2;obtain⟨⟨sd,o3⟩,I⟩:=lh (bE 2 C);have hm:=HM.out;rw[U2,I]at hm;rw[I]at l;dsimp only at hm l;have m:(256:Int)^2=65536:=by decide
   rw[m]at l;have w1:IntKind.i64.wrap sd=sd:=by rw[bF];omega
   have t1:decide (0<G+1)=true:=au;have HG2:=ae I;have J:=ae hm;obtain⟨R1,M⟩:=lg (G+1:Nat);rw[<-M]at t1⊢;have w2:IntKind.u64.wrap ((R1:Int)-1)=(G:Int):=by rw[cZ];omega
   have T:=ae M;clear I hm m hr M
   go_upto_region 6 with(go_at_call 46;refine(qQ (k:=2) (y:=2) HR rfl ah ah HG2).mono ?_;rintro e u2 ⟨rfl,N,K,ru⟩)
   obtain⟨v3,b3,Gz,U⟩:=N.out.flag;cases o3 with
   |none=>
    subst U;have hm:=J.out;rw[if_pos rfl,if_pos rfl]at hm;injection hm with m1 S
    subst m1 S;clear J
    go_wp2_with fail
    go_ret;exact⟨none,0,rfl,⟨fun j z hj=>by simp at hj,fun b ⟨ad,e9,_⟩=>(by cases e9),fun b ⟨ad,e9,_⟩=>(by cases e9)⟩,az _,N,ae (Y.out.trans K.out),ru⟩
   |some P=>
    subst U;have hm:=J.out;rw[if_neg (show¬(some P:eY)=none from by simp)]at hm;have D:Hid (aG u2 w.heap.size 3 A c' zs):=ae (K.out.own X.out fun b hb=>by have:=(X.out.af hb).1;omega);have Un:Hid ((if(jm G (some P)).2=none then([],none)else((zs++[sd])++(jm G (some P)).1,(jm G (some P)).2))=(xs,o')):=ae (by
     rw[<-hm];by_cases h8:(jm G (some P)).2=none
     ·simp[h8]
     ·simp[h8])
    have Ji:Hid (w.heap.size<=u2.heap.size):=ae (aZ Y.out.size K.out.size);subst Q;clear hm J
    go_wp2_with (at_builtin;refine Ij rfl _ _ _ rfl 3 Tryz.underlying25 aj w.heap.size A c' zs rfl D.out sd rfl om Ji.out ?_;intro A3 c3 w3 ho3 O _)
    go_roundw
    case rel=>
     have hA:=D.out.fresh;have hgl:¬AF A g:=fun hx=>by have:=(D.out.af hx).1;omega
     exact⟨zs.length+1,G,zs++[sd],A3,c3,some P,by have:=T.out;omega,au,rfl,rfl,ae ho3,ae (N.out.kf (Kf.iq O) (fun b hb=>by have:=(D.out.af hb).1;omega) hgl),ae ((Y.out.trans K.out).U1 O hA),ae (fun h=>by cases h),Un,(Kf.iq O).prev fun b hb=>by have:=(D.out.af hb).1;omega⟩
    case measure=>simp[intOf];have:=T.out;omega
end
def oQ(o:eY):Prop:=∀L,o=some L->lZ L
structure ek(T:TypeId)(p v v2 u:World)(g vb:Nat)(o:eY)(cs:Array Value):Prop where
 r:jf p u g o
 k:Ke (fun b=>b=g\/b=vb) v u
 k2:Ke (fun b=>b=g\/b=vb) v2 u
 bv:aD u vb T cs
 ne:vb≠g
 lo:p.heap.size<=vb
 hv:vb<v.heap.size
 hvv:v.heap.size<=v2.heap.size
def fO(o:eY):Nat->eY
 |0=>o
 |i+1=>(bE 2 (fO o i)).2
section
variable{p w w' u u' v:World}{g vb k n c q B b i:Nat}{o o':eY}{L zs xs:List Int}{cs:Array Value}{F F':Nat->Prop}{A A':Option Addr}{E T:TypeId}{y:Value}
theorem jf.byO(h:jf p w g o):oQ o:=fun L e=>by subst e;exact h.byt
theorem oQ.get(h:oQ o)(k:Nat):oQ (bE k o).2/\0<=(bE k o).1/\(bE k o).1<256^k:=by
 cases o with
 |none=>exact⟨fun L e=>(by cases e),jg _,GL k⟩
 |some L=>
  unfold bE;dsimp only
  split
  ·exact⟨fun L e=>(by cases e),jg _,GL k⟩
  ·rename_i l;have hb:=GK (zs:=L.take k) fun z j=>h L rfl z (gU j);rw[dO,iY om]at hb;exact⟨fun L' e z j=>by injection e with e;subst e;exact h L rfl z (jo j),hb⟩
theorem oQ.sides:∀(c:Nat) {o:eY},oQ o->oQ (jm c o).2
 |0,o,h=>h
 |c+1,o,h=>by
  rw[U2]
  split
  ·exact fun L e=>by cases e
  ·split
   ·exact fun L e=>by cases e
   ·exact oQ.sides c (h.get 2).1
theorem oQ.sh(h:oQ o):oQ (lY o).2:=oQ.sides _ (h.get 1).1
theorem oQ.ins:∀(c:Nat) {o:eY},oQ o->oQ (nN c o).2
 |0,o,h=>h
 |c+1,none,h=>fun L e=>by cases e
 |c+1,some L,h=>oQ.ins c (h.get 2).1
theorem ek.at{v2:World}(h:ek T p v v2 u g vb o cs)[Later u u']:ek T p v v2 u' g vb o cs:=⟨h.r.at,h.k.trans (Kf.later _),h.k2.trans (Kf.later _),h.bv.at,h.ne,h.lo,h.hv,h.hvv⟩
theorem ek.get{v2:World}(h:ek T p v v2 u g vb o cs)(hr:jf p u' g o')(j:Ke (fun b=>b=g) u u'):ek T p v v2 u' g vb o' cs:=
 ⟨hr,h.k.trans (j.more (fun _ e=>.inl e) fun _ e=>.inr (.inl e)),h.k2.trans (j.more (fun _ e=>.inl e) fun _ e=>.inr (.inl e)),j.blk h.bv h.ne,h.ne,h.lo,h.hv,h.hvv⟩
theorem ek.set{v2:World}(h:ek T p v v2 u g vb o cs)(i:Nat)(y:Value):ek T p v v2 (u.setCell ⟨vb,i,none⟩ y) g vb o (cs.setIfInBounds i y):=
 ⟨h.r.kf (F:=fun b=>b=vb) ((Kf.refl (fun b=>b=vb) u).aF (q:=⟨vb,i,none⟩) rfl y) (fun b e=>by rw[e];exact h.lo) fun e=>h.ne e.symm,h.k.aF (q:=⟨vb,i,none⟩) (.inr rfl) y,h.k2.aF (q:=⟨vb,i,none⟩) (.inr rfl) y,h.bv.aF i y,h.ne,h.lo,h.hv,h.hvv⟩
theorem ek.prev{v2:World}(h:ek T p v v2 u g vb o cs):ak u p:=h.r.prev
theorem ek.iq{v2:World}(h:ek T p v v2 u g vb o cs)(l:bS A A' u u')(j:∀b,AF A b->v2.heap.size<=b)(hg:g<v.heap.size):ek T p v v2 u' g vb o cs:=
 have z:=h.hvv
 ⟨h.r.kf (Kf.iq l) (fun b hb=>by have:=j b hb;have:=h.lo;have:=h.hv;omega) fun m=>(by have:=j g m;omega),h.k.U1 l fun ad e=>aZ z (j _ ⟨ad,e,rfl⟩),h.k2.U1 l fun ad e=>j _ ⟨ad,e,rfl⟩,(Kf.iq l).blk h.bv fun m=>(by have:=j vb m;have:=h.hv;omega),h.ne,h.lo,h.hv,z⟩
theorem ek.from_{v2:World}(h:ek T p v v2 u g vb o cs):ek T p v u u g vb o cs:=⟨h.r,h.k,Kf.refl _ _,h.bv,h.ne,h.lo,h.hv,h.k.size⟩
theorem ek.rd{v2:World}(h:ek T p v v2 u g vb o cs)(hr:Rd v2 A zs)(j:∀b,AF A b->v.heap.size<=b)(hg:g<v.heap.size):Rd u A zs:=h.k2.rd hr fun b hb=>by
 have:=j b hb;have:=h.hv;rintro(e|e)<;>omega
theorem GM{P:Program}{w:World}{j:Array Oper}{o:Oper}{a:Act}{K:Act->World->Prop}{Q:Exit->Act->World->Prop}(C:Region.wanted o (yielded j a.tmps)=true)(s x:Operand)(t:TypeId)
  (D:o.op=.call {callee:=.builtin .append,args:= #[s,x],argTypes:= #[t,t]}) (E:TypeId) (ht:P.underlying t=some (.slice E)) (k bytes:Nat) (z:Value)
  (e:(P.info? E).map (fun i=>(i.zero,i.size,i.bytes))=some (some z,k,bytes)) (m:z.cells.size=k) (G:0<k) (r:bytes<=1000)
  (B:Nat) (A:Option Addr) (c n:Nat) (vs:List Value) (hs:a.eval s=.slice A n c) (l:aP w B E k A c n vs) {vb:Nat} (us:List Value) (I:a.eval x=.slice vb 1 1) (hb:aD w vb E us.toArray) (J:us.length=k) (M:∀u∈us,u.oneCell'=true) (N:n<=100000000) (O:B<=w.heap.size)
  (h:∀A' c' w',aP w' B E k A' c' (n+1) (vs++us)->bS A A' w w'->K (a.put o.dst (.slice A' (n+1) c')) w'):
  if Region.wanted o (yielded j a.tmps)=true then Oper.wp P o a w K Q else K (a.put o.dst undef) w:=by
 rw[if_pos C];obtain⟨A',c',w',hr,R,S⟩:=QD (P:=P) l t o.type ht bytes e m G r hb J M N O;unfold Oper.wp execOp;simp only[D,resolve,invoke,builtin,Lr,Lp,Ld,K9,fe,lG,hs,I,hr];exact h A' c' w' R S
theorem ao9:Calls Tryz.prog 90 #[.pointer vb] w (fun e w'=>∃G,e=.returned (.slice (some ⟨G,0,none⟩) 5 5)/\w.heap.size<=G/\aD w' G 183 #[.pointer (some ⟨vb,2,none⟩),.pointer (some ⟨vb,3,none⟩),.pointer (some ⟨vb,4,none⟩),.pointer (some ⟨vb,5,none⟩),.pointer (some ⟨vb,6,none⟩)]/\ak w' w):=by
 go_enter Tryz.func90,Tryz.ntmps90
 go_upto_region 1 with fail
 refine eU w aj (fun j _=>?_);refine ag 0 3 ?_;refine ag 1 4 ?_;refine ag 2 5 ?_;refine ag 3 6 ?_;refine ag 4 7 ?_;refine ag 5 8 ?_;refine ag 6 9 ?_;refine ag 7 10 ?_;refine ag 8 11 ?_;refine ag 9 12 ?_;refine ag 10 13 ?_;refine ag 11 14 ?_;refine ag 12 15 ?_;refine ag 13 16 ?_;refine ag 14 17 ?_;refine ay 15 fun K hK=>?_;go_simp;refine av hK ?_;clear hK K;refine bY (fun j _ _=>?_);refine ag 16 2 ?_;refine aO ?_
 go_wp2_with fail
 go_ret;exact⟨_,rfl,aH,Bx.blk,ai _ _⟩
end
end Go.Proofs.YtmkjnlifimffkaaGreat
