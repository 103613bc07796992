import Derived.Test.YtogliemiljhliaaSortH
import Derived.Test.YtogliemiljhliaaSymSlc
set_option linter.unusedSimpArgs false
set_option linter.unusedVariables false
namespace Go.Proofs.Ytogliemiljhliaa
open Go.Sim
set_option maxRecDepth 100000
def iC(x:Int):List Value:=[.int .i64 x]
theorem iC_len(x:Int):(iC x).length=1:=rfl
theorem iC_ok(x:Int):(iC x).all cellOK=true:=rfl
abbrev Is(h:AHeap)(a:Option Addr)(n:Nat)(l:List Int):Prop:=Rows iC 1 h a n l
def leI(a b:Int):Prop:=a<=b
theorem leI_pre:Pre leI:=⟨fun x=>by unfold leI;omega,fun x y z=>by unfold leI;omega,fun x y=>by unfold leI;omega⟩
theorem TI:SliceT Try.prog 22 3 1:=⟨by kernel_rfl,by kernel_rfl,⟨8,by kernel_rfl,by omega⟩,⟨.int .i64 0,by kernel_rfl,rfl⟩⟩
theorem is_at{h:AHeap}{a:Option Addr}{n:Nat}{l:List Int}(p:Is h a n l){i:Int}(h0:0<=i)(hi:i<n):∃b o x,a=some ⟨b,o,none⟩/\b<h.next/\gt l i=x/\h.readG ⟨b,o+i.toNat*1,none⟩ 1=some [.int .i64 x]:=by
 obtain⟨b,o,e,lb,w⟩:=p.at h0 hi;exact⟨b,o,_,e,lb,rfl,w 0 1 (by omega) (by omega)⟩
structure DatI(h0 h:AHeap)(b n:Nat)(L:List Int):Prop where
 ext:Ext h0 h
 own:Own h b 1 (L.flatMap iC)
 old:h0.next<=b
 lt:b<h.next
 len:L.length=n
 few:n<=100000
theorem DatI.more{h0 h h':AHeap}{b n:Nat}{L:List Int}(t:DatI h0 h b n L)(e:Ext h h'):DatI h0 h' b n L:=
 ⟨t.ext.trans e,t.own.ext e t.lt,t.old,Nat.lt_of_lt_of_le t.lt e.next,t.len,t.few⟩
theorem DatI.rows{h0 h:AHeap}{b n:Nat}{L:List Int}(t:DatI h0 h b n L):Is h (some ⟨b,0,none⟩) n L:=by
 have r:Rows iC 1 h (some ⟨b,0,none⟩) L.length L:=Own.rows t.own iC_len (by omega) t.lt;rw[t.len]at r;exact r
theorem DatI.read{h0 h:AHeap}{b n:Nat}{L:List Int}(t:DatI h0 h b n L){i:Int}(i0:0<=i)(i1:i<n):∃x,gt L i=x/\h.readG ⟨b,0+i.toNat*1,none⟩ 1=some [.int .i64 x]:=by
 obtain⟨b',o',x,e,_,hg,h3⟩:=is_at t.rows i0 i1;cases e;exact⟨x,hg,h3⟩
theorem DatI.put{h0 h:AHeap}{b n:Nat}{L:List Int}(t:DatI h0 h b n L){i:Int}(i0:0<=i)(i1:i<n){x:Int}:∃h',h.write b (i.toNat*1) [.int .i64 x]=some h'/\DatI h0 h' b n (L.set i.toNat x)/\Wrote h h' b:=by
 obtain⟨h',w1,w2,w3⟩:=Own.setRow t.own iC_len (i:=i.toNat) (by have:=t.len;omega) x;exact⟨h',w1,⟨w3.ext t.ext t.old,w2,t.old,by rw[w3.next];exact t.lt,by rw[List.length_set];exact t.len,t.few⟩,w3⟩
variable{F:Prims}{call head arith cmp b0 c0 d0 e0 f0 g0 k0 l0 m0 place n0 nz o0 rd wr q0 next r0 s0 t0 u0 v0 w0 x0 y0 z0 a1 b1 d1 f1 l1 m1 bump n1 o1 lt ne s1 u1 v1 yn y1 z1 a2 b2 c2 d2:_}(hA:AP F ⟨call,head,arith,cmp,b0,c0,d0,e0,f0,g0,k0,l0,m0,place,n0,nz,o0,rd,wr,q0,next,r0,s0,t0,u0,v0,w0,x0,y0,z0,a1,b1,d1,f1,l1,m1,bump,n1,o1,lt,ne,s1,u1,v1,yn,y1,z1,a2,b2,c2,d2⟩)
include hA
theorem less_ok{h:AHeap}(hlow:h.low<=h.next){x y:Int}{Q:Value->AHeap->Prop}(hQ:∀r:Bool,r=decide (x<y)->Q (.bool r) h):call 99 [.int .i64 x,.int .i64 y] h Q:=by
 have nan:∀{z:Int} {R:Value->AHeap->Prop},R (.bool false) h->call 110 [.int .i64 z] h R:=fun {z R} hR=>by
  refine hA.bodyR Try.func110 r110_ok (hA.alike _ _ _ rfl) hlow (zc ?_);rw[show cmp .neq z z=false by rw[e_neq hA];simp];exact hR
 refine hA.bodyR Try.func99 r99_ok (hA.alike _ _ _ rfl) hlow (zc ?_);refine nan ⟨_,rfl,?_⟩;refine zc ?_;exact hQ _ (by rw[e_lss hA])
theorem datI_swap{h0 h:AHeap}{b n:Nat}{L:List Int}(t:DatI h0 h b n L){i j:Int}(i0:0<=i)(i1:i<n)(j0:0<=j)(j1:j<n){x1 x2:Int}(g1:gt L i=x1)(g2:gt L j=x2) :
  ∃h1 h2,wr h b (place 0 i 1) [.int .i64 x2] h1/\wr h1 b (place 0 j 1) [.int .i64 x1] h2/\DatI h0 h2 b n (swapL L i j):=by
 obtain⟨h1,k1,t1,_⟩:=t.put i0 i1 (x:=x2);obtain⟨h2,k2,t2,_⟩:=t1.put j0 j1 (x:=x1);refine⟨h1,h2,wr_ok hA (by rw[Nat.zero_add];exact k1),wr_ok hA (by rw[Nat.zero_add];exact k2),?_⟩;unfold swapL;rw[g1,g2];exact t2
theorem inI_inner{h0:AHeap}(hlow:h0.low<=h0.next){b n c:Nat}{L0:List Int}{A B i:Int}(a0:0<=A)(ab:B<=n)(ai:A<i)(ib:i<B){Q:Exit->SS->Prop}
  (hQ:∀h' L kn,DatI h0 h' b n L->PermOn A B L0 L->SortedOn leI L A (i+1)->Q (.exit 2) ⟨[(0,.slice (some ⟨b,0,none⟩) n c),(1,.int .i64 A),(2,.int .i64 B),(6,.int .i64 i)],kn,[],h'⟩) :
  ∀(m:Nat) (j:Int) (h:AHeap) (L:List Int),(j-A).toNat<=m->A<=j->j<=i->DatI h0 h b n L->PermOn A B L0 L->InsOn leI L A i j->
   head 93 4 0 ⟨[(0,.slice (some ⟨b,0,none⟩) n c),(1,.int .i64 A),(2,.int .i64 B),(6,.int .i64 i),(7,.int .i64 j)],0,[],h⟩ Q:=by
 intro m
 induction m with
 |zero=>
  intro j h L hm j0 j1 t hp hI;obtain rfl:j=A:=by omega
  refine hA.roundR Try.func93 r93_ok (zc ?_);refine br (j<j) (by rw[e_gtr hA]) (fun q=>by omega) (fun _=>?_)<;>refine zc ?_;exact hQ _ _ _ (t.more (ext_bump hA _ _)) hp hI.first
 |succ m ih=>
  intro j h L hm j0 j1 t hp hI;by_cases cj:A<j
  rotate_left
  ·obtain rfl:j=A:=by omega
   refine hA.roundR Try.func93 r93_ok (zc ?_);refine br (j<j) (by rw[e_gtr hA]) (fun q=>by omega) (fun _=>?_)<;>refine zc ?_;exact hQ _ _ _ (t.more (ext_bump hA _ _)) hp hI.first
  have few:=t.few;have e1:arith .sub .i64 j 1=j-1:=sub64 hA (by omega) (by omega);obtain⟨j',hj'⟩:∃z,z=j-1:=⟨_,rfl⟩;rw[<-hj']at e1;obtain⟨h9,hh9⟩:∃z,z=bump h 15:=⟨_,rfl⟩;have x9:Ext h h9:=by rw[hh9];exact ext_bump hA _ _
  have t9:=t.more x9;have l9:=t9.ext.lowOK hlow;obtain⟨x1,g1,r1⟩:=t9.read (i:=j) (by omega) (by omega);obtain⟨x2,g2,r2⟩:=t9.read (i:=j') (by omega) (by omega);have q1:=rd_ok hA r1;have q2:=rd_ok hA r2;refine hA.roundR Try.func93 r93_ok (zc ?_);refine br (A<j) (by rw[e_gtr hA]) (fun _=>?_) (fun q=>absurd cj q)<;>refine zc ?_;rw[<-hh9]
  (refine zq ?_;repeat ((first|rw[e1]);refine zq ?_))
  refine less_ok hA (low_fresh hA h9) (fun r hr=>⟨_,rfl,?_⟩);refine zc ?_;rw[low_same hA l9];refine br (x1<x2) hr (fun c1=>?_) (fun c1=>?_)<;>refine zc ?_
  rotate_left
  ·refine hQ _ _ _ t9 hp (hI.stop leI_pre cj ?_)
   rw[<-hj',g1,g2];unfold leI;omega
  have w:¬leI (gt L (j-1)) (gt L j):=by
   rw[<-hj',g1,g2];unfold leI;omega
  obtain⟨h12,hh12⟩:∃z,z=bump h9 18:=⟨_,rfl⟩;have x12:Ext h9 h12:=by rw[hh12];exact ext_bump hA _ _
  have t12:=t9.more x12;obtain⟨x1',g1',r1'⟩:=t12.read (i:=j) (by omega) (by omega);obtain⟨x2',g2',r2'⟩:=t12.read (i:=j') (by omega) (by omega);rw[g1]at g1';rw[g2]at g2';cases g1';cases g2';have q1':=rd_ok hA r1';have q2':=rd_ok hA r2';obtain⟨h13,h14,p1,p2,t14⟩:=datI_swap hA t12 (i:=j) (j:=j') (by omega) (by omega) (by omega) (by omega) g1 g2;rw[<-hh12]
  (refine zq ?_;repeat ((first|rw[e1]);refine zq ?_))
  refine ih j' h14 _ (by omega) (by omega) (by omega) t14 (hp.trans (PermOn.swap L (by omega) (by rw[t.len];exact ab) (by omega) (by omega) (by omega) (by omega))) ?_;have:=hI.step leI_pre (by omega) (by rw[t.len];omega) cj j1 w;rw[<-hj']at this;exact this
theorem inI_outer{h0:AHeap}(hlow:h0.low<=h0.next){b n c:Nat}{L0:List Int}{A B:Int}(a0:0<=A)(ab:B<=n){Q:Exit->SS->Prop}
  (hQ:∀h' L e kn,DatI h0 h' b n L->PermOn A B L0 L->SortedOn leI L A B->Q (.exit 0) ⟨e,kn,[],h'⟩) :
  ∀(m:Nat) (i:Int) (h:AHeap) (L:List Int),(B-i).toNat<=m->A<i->DatI h0 h b n L->PermOn A B L0 L->SortedOn leI L A i->
   head 93 1 0 ⟨[(0,.slice (some ⟨b,0,none⟩) n c),(1,.int .i64 A),(2,.int .i64 B),(6,.int .i64 i)],0,[],h⟩ Q:=by
 intro m
 induction m with
 |zero=>
  intro i h L hm i0 t hp hs;refine hA.roundR Try.func93 r93_ok (zc ?_);refine br (i<B) (by rw[e_lss hA]) (fun q=>by omega) (fun _=>?_)<;>refine zc ?_;exact hQ _ _ _ _ t hp (fun p q p0 pq q1=>hs p q p0 pq (by omega))
 |succ m ih=>
  intro i h L hm i0 t hp hs;have few:=t.few;refine hA.roundR Try.func93 r93_ok (zc ?_);refine br (i<B) (by rw[e_lss hA]) (fun ci=>?_) (fun _=>?_)<;>refine zc ?_
  rotate_left
  ·exact hQ _ _ _ _ t hp (fun p q p0 pq q1=>hs p q p0 pq (by omega))
  refine inI_inner hA hlow (L0:=L0) a0 ab i0 ci (fun h' L' kn t' hp' hs'=>?_) (i-A).toNat i h L (Nat.le_refl _) (by omega) (by omega) t hp (.start hs);refine zc ?_;rw[add64 hA (by omega) (by omega)];exact ih (i+1) h' L' (by omega) (by omega) t' hp' hs'
theorem inI_ok{h0 h:AHeap}(hlow:h0.low<=h0.next){b n c:Nat}{L:List Int}{A B:Int}(a0:0<=A)(an:A<=n)(ab:B<=n)(t:DatI h0 h b n L){Q:Value->AHeap->Prop}
  (hQ:∀h' L',DatI h0 h' b n L'->PermOn A B L L'->SortedOn leI L' A B->Q (.tuple #[]) h'):call 93 [.slice (some ⟨b,0,none⟩) n c,.int .i64 A,.int .i64 B] h Q:=by
 have hlow':=hlow
 replace hlow:=t.ext.lowOK hlow
 have few:=t.few;refine hA.bodyR Try.func93 r93_ok (hA.alike _ _ _ rfl) hlow (zc ?_);rw[add64 hA (by omega) (by omega)];refine inI_outer hA hlow' (L0:=L) a0 ab (fun h' L' e kn t' hp hs=>?_) (B-(A+1)).toNat (A+1) h L (Nat.le_refl _) (by omega) t (.refl _ _ _) (.one (by omega));refine zc ?_;exact hQ h' L' t' hp hs
theorem lenI_ok{h:AHeap}(hlow:h.low<=h.next){x:Int}(hx:u64 x){Q:Value->AHeap->Prop}(hQ:∀n:Int,isLen x n->Q (.int .i64 n) h):call 80 [.int .u64 x] h Q:=by
 refine hA.bodyR Try.func80 r80_ok (hA.alike _ _ _ rfl) hlow (zc ?_);refine len64_ok hA hlow hx (fun n hn=>⟨_,rfl,?_⟩);refine zc ?_;exact hQ n hn
theorem pdqI_few{h0 h:AHeap}(hlow:h0.low<=h0.next){b n c:Nat}{L:List Int}(hn:n<=12)(t:DatI h0 h b n L){k N:Int}(hN:N=n){Q:Value->AHeap->Prop}
  (hQ:∀h' L',DatI h0 h' b n L'->PermOn 0 n L L'->SortedOn leI L' 0 n->Q (.tuple #[]) h'):call 79 [.slice (some ⟨b,0,none⟩) n c,.int .i64 0,.int .i64 N,.int .i64 k] h Q:=by
 have hlow':=hlow
 replace hlow:=t.ext.lowOK hlow
 refine hA.bodyR Try.func79 r79_ok (hA.alike _ _ _ rfl) hlow (zc ?_);refine hA.roundR Try.func79 r79_ok (zc ?_);rw[show arith .sub .i64 N 0=N by rw[sub64 hA (by omega) (by omega)];omega];refine br (N<=12) (by rw[e_leq hA]) (fun _=>?_) (fun q=>by omega)<;>refine zc ?_;refine inI_ok hA hlow' (by omega) (by omega) (by omega) t (fun h1 L1 t1 hp1 hs1=>?_);refine zc ?_;exact hQ _ _ t1 (hN ▸ hp1) (hN ▸ hs1)
theorem sortI_few{h0 h:AHeap}(hlow:h0.low<=h0.next){b n c:Nat}{L:List Int}(hn:n<=12)(t:DatI h0 h b n L){Q:Value->AHeap->Prop}
  (hQ:∀h' L',DatI h0 h' b n L'->PermOn 0 n L L'->SortedOn leI L' 0 n->Q (.tuple #[]) h'):call 58 [.slice (some ⟨b,0,none⟩) n c] h Q:=by
 have hlow':=hlow
 replace hlow:=t.ext.lowOK hlow
 refine hA.bodyR Try.func58 r58_ok (hA.alike _ _ _ rfl) hlow (zc ?_);rw[e_ofNat hA,convU hA (by omega) (by omega)];refine lenI_ok hA hlow (by unfold u64;omega) (fun k hk=>⟨_,rfl,?_⟩);refine zc ?_;refine pdqI_few hA hlow' hn t rfl (fun h' L' t' hp hs=>?_);refine zc ?_;exact hQ h' L' t' hp hs
