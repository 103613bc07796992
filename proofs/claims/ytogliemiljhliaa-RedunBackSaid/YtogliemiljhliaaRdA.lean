import Derived.Test.YtogliemiljhliaaSrtA
import Derived.Test.YtogliemiljhliaaSymGr
set_option linter.unusedSimpArgs false
set_option linter.unusedVariables false
namespace Go.Proofs.Ytogliemiljhliaa
open Go.Sim
set_option maxRecDepth 100000
def goodAt(l:List Int)(i:Int):Prop:=0<=gt l i/\gt l i<=31/\(0<i->gt l (i-1)<gt l i)
def goodL(l:List Int):Prop:=∀i:Int,0<=i->i<l.length->goodAt l i
def CheckL(l:List Int)(e:Int):Prop:=(5<l.length/\e=4)\/(l.length<2/\e=8)\/((2<=l.length/\l.length<=5)/\¬goodL l/\e=8)\/((2<=l.length/\l.length<=5)/\goodL l/\e=0)
theorem CheckL.uniq{l:List Int}{e f:Int}(h:CheckL l e)(k:CheckL l f):e=f:=by
 rcases h with h|h|⟨h,g,he⟩|⟨h,g,he⟩<;>rcases k with k|k|⟨k,g',ke⟩|⟨k,g',ke⟩<;>first|omega|exact absurd g g'|exact absurd g' g
structure Line(l:List Int):Prop where
 n2:2<=l.length
 n5:l.length<=5
 good:goodL l
theorem CheckL.zero{l:List Int}{e:Int}(h:CheckL l e)(e0:e=0):Line l:=by
 rcases h with h|h|⟨h,g,he⟩|⟨h,g,he⟩
 ·omega
 ·omega
 ·omega
 ·exact⟨h.1,h.2,g⟩
theorem Line.lt{l:List Int}(h:Line l):∀(d:Nat) (i:Int),0<=i->i+1+d<l.length->gt l i<gt l (i+1+d)
 |0,i,i0,hi=>by
  have:=(h.good (i+1) (by omega) (by omega)).2.2 (by omega);rw[show i+1-1=i by omega]at this;rw[show i+1+((0:Nat):Int)=i+1 by omega];exact this
 |d+1,i,i0,hi=>by
  have h1:=Line.lt h d i i0 (by omega);have h2:=(h.good (i+1+d+1) (by omega) (by omega)).2.2 (by omega);rw[show i+1+(d:Int)+1-1=i+1+d by omega]at h2;rw[show i+1+((d+1:Nat):Int)=i+1+d+1 by omega];omega
theorem Line.mono{l:List Int}(h:Line l){i j:Int}(i0:0<=i)(ij:i<j)(hj:j<l.length):gt l i<gt l j:=by
 have:=h.lt (j-i-1).toNat i i0 (by omega);rw[show i+1+((j-i-1).toNat:Int)=j by omega]at this;exact this
theorem Line.rng{l:List Int}(h:Line l){i:Int}(i0:0<=i)(hi:i<l.length):0<=gt l i/\gt l i<=31:=⟨(h.good i i0 hi).1,(h.good i i0 hi).2.1⟩
def ixFrom(x:Int):List Int->Int->Int
 | [],_=>-1
 |y :: l,i=>if y=x then i else ixFrom x l (i+1)
def ixI(l:List Int)(x:Int):Int:=ixFrom x l 0
theorem ixFrom_step(l:List Int)(x:Int){i:Int}(i0:0<=i)(i1:i<l.length):ixFrom x (l.drop i.toNat) i=if gt l i=x then i else ixFrom x (l.drop (i+1).toNat) (i+1):=by
 have e:l.drop i.toNat=gt l i :: l.drop (i+1).toNat:=by
  rw[List.drop_eq_getElem_cons (by omega),show(i+1).toNat=i.toNat+1 by omega]
  congr 1
  unfold gt;rw[List.getD_eq_getElem?_getD,List.getElem?_eq_getElem (by omega)];rfl
 rw[e];rfl
theorem ixFrom_end(l:List Int)(x:Int){i:Int}(i1:(l.length:Int)<=i):ixFrom x (l.drop i.toNat) i=-1:=by
 rw[List.drop_eq_nil_of_le (by omega)];rfl
theorem ixFrom_get(x:Int):∀(l:List Int) (i:Int),x∈l->∃k:Nat,ixFrom x l i=i+k/\l[k]?=some x
 | [],i,h=>by simp at h
 |y :: l,i,h=>by
  unfold ixFrom;by_cases e:y=x
  ·rw[if_pos e];exact⟨0,by omega,by rw[e];rfl⟩
  ·rw[if_neg e]
   obtain⟨k,h1,h2⟩:=ixFrom_get x l (i+1) ((List.mem_cons.1 h).resolve_left (fun q=>e q.symm));exact⟨k+1,by omega,by rw[List.getElem?_cons_succ];exact h2⟩
theorem ixFrom_not(x:Int):∀(l:List Int) (i:Int),x∉l->ixFrom x l i=-1
 | [],i,h=>rfl
 |y :: l,i,h=>by
  unfold ixFrom;rw[if_neg (fun e=>h (by rw[e];simp)),ixFrom_not x l (i+1) (fun q=>h (List.mem_cons_of_mem _ q))]
theorem ixI_mem{l:List Int}{x:Int}(h:x∈l):0<=ixI l x/\ixI l x<l.length/\gt l (ixI l x)=x:=by
 obtain⟨k,h1,h2⟩:=ixFrom_get x l 0 h;obtain⟨hk,h3⟩:=List.getElem?_eq_some_iff.1 h2;unfold ixI;rw[h1];refine⟨by omega,by omega,?_⟩;unfold gt;rw[show(0+(k:Int)).toNat=k by omega,List.getD_eq_getElem?_getD,h2];rfl
theorem ixI_ge{l:List Int}{x:Int}:0<=ixI l x↔x∈l:=by
 constructor
 ·intro h
  refine Classical.byContradiction fun q=>?_
  have:=ixFrom_not x l 0 q;unfold ixI at h;omega
 ·intro h;exact(ixI_mem h).1
variable{F:Prims}{call head arith a0 b0 d0 f0 g0 k0 l0 m0 n0 o0 p0 q0 nz s0 rd wr t0 next u0 v0 w0 x0 y0 z0 a1 b1 d1 e1 f1 g1 k1 l1 m1 bump n1 o1 lt ne p1 s1 t1 yn rng u1 v1 w1 x1 y1:_}(hA:AP F ⟨call,head,arith,a0,b0,d0,f0,g0,k0,l0,m0,n0,o0,p0,q0,nz,s0,rd,wr,t0,next,u0,v0,w0,x0,y0,z0,a1,b1,d1,e1,f1,g1,k1,l1,m1,bump,n1,o1,lt,ne,p1,s1,t1,yn,rng,u1,v1,w1,x1,y1⟩)
include hA
theorem chk_loop{h0:AHeap}(hlow:h0.low<=h0.next){a:Option Addr}{N c:Nat}{l:List Int}(hl:Is h0 a N l)(hN:N<=5){NN:Int}(hNN:NN=N){Q:Exit->SS->Prop}
  (hbad:∀h' e kn K,¬goodL l->Ext h0 h'->Q .ret ⟨(2,.int .i64 8) :: e,kn,K,h'⟩)
  (hok:∀h' kn K,goodL l->Ext h0 h'->Q (.exit 0) ⟨[],kn,K,h'⟩) :
  ∀(m:Nat) (i:Int) (h:AHeap),(N-i).toNat<=m->0<=i->i<=N->(∀j:Int,0<=j->j<i->goodAt l j)->Ext h0 h->
   head 18 6 0 ⟨[(0,.slice a N c),(11,.slice a N c),(12,.int .i64 NN),(13,.int .i64 i)],0,[],h⟩ Q:=by
 have lN:=hl.len;refine upTo (fun m ih=>?_);intro i h hm i0 i1 hall he;by_cases ci:i<N
 rotate_left
 ·refine hA.roundR Try.func18 r18_ok (zc ?_)
  refine br (i<NN) (by rw[e_lss hA]) (fun q=>by omega) (fun _=>?_)<;>refine zc ?_;exact hok h _ _ (fun j j0 j1=>hall j j0 (by omega)) he
 obtain⟨m,rfl⟩:∃k,m=k+1:=⟨m-1,by omega⟩
 replace ih:=ih m rfl
 obtain⟨b,o,x,rfl,_,hg,r1⟩:=is_at (hl.ext he) (i:=i) i0 ci;have q1:=rd_ok hA r1;have no:¬goodAt l i->¬goodL l:=fun w q=>w (q i i0 (by omega))
 refine hA.roundR Try.func18 r18_ok (zc ?_);refine br (i<NN) (by rw[e_lss hA]) (fun _=>?_) (fun q=>by omega)<;>refine zc ?_;refine zq ?_;refine br (x<0) (by rw[e_lss hA]) (fun q=>?_) (fun c0=>?_)<;>refine zc ?_
 ·exact hbad h _ _ _ (no (fun w=>by have:=w.1;omega)) he
 refine br (31<x) (by rw[e_gtr hA]) (fun q=>?_) (fun c1=>?_)<;>refine zc ?_
 ·exact hbad h _ _ _ (no (fun w=>by have:=w.2.1;omega)) he
 have next:goodAt l i->head 18 6 0 ⟨[(0,.slice (some ⟨b,o,none⟩) N c),(11,.slice (some ⟨b,o,none⟩) N c),(12,.int .i64 NN),(13,.int .i64 (i+1))],0,[],h⟩ Q:=fun g=>by
  refine ih (i+1) h (by omega) (by omega) (by omega) (fun j j0 j1=>?_) he;by_cases e:j=i
  ·rw[e];exact g
  ·exact hall j j0 (by omega)
 refine br (0<i) (by rw[e_gtr hA]) (fun ip=>?_) (fun ip=>?_)<;>refine zc ?_
 ·rw[sub64 hA (by omega) (by omega)]
  obtain⟨b2,o2,y,e2,_,hg2,r2⟩:=is_at (hl.ext he) (i:=i-1) (by omega) (by omega);cases e2;have q2:=rd_ok hA r2;obtain⟨j,hj⟩:∃z,z=i-1:=⟨_,rfl⟩;rw[<-hj]at q2 hg2 ⊢;refine zq ?_;refine br (x<=y) (by rw[e_leq hA]) (fun q=>?_) (fun c2=>?_)<;>refine zc ?_
  ·exact hbad h _ _ _ (no (fun w=>by have:=w.2.2 ip;rw[<-hj]at this;omega)) he
  rw[add64 hA (by omega) (by omega)];exact next ⟨by omega,by omega,fun _=>by rw[<-hj];omega⟩
 ·rw[add64 hA (by omega) (by omega)]
  exact next ⟨by omega,by omega,fun q=>absurd q ip⟩
theorem chk_ok{h:AHeap}(hlow:h.low<=h.next){a:Option Addr}{N c:Nat}{l:List Int}(hl:Is h a N l){Q:Value->AHeap->Prop}
  (hQ:∀e h',CheckL l e->Ext h h'->Q (.int .i64 e) h'):call 18 [.slice a N c] h Q:=by
 have lN:=hl.len;refine hA.bodyR Try.func18 r18_ok (hA.alike _ _ _ rfl) hlow (zc ?_);refine br (5<(N:Int)) (by rw[e_gtr hA,e_ofNat hA]) (fun q=>?_) (fun n5=>?_)<;>refine zc ?_
 ·exact hQ 4 h (.inl ⟨by omega,rfl⟩) (.refl h)
 refine br ((N:Int)<2) (by rw[e_lss hA,e_ofNat hA]) (fun q=>?_) (fun n2=>?_)<;>refine zc ?_
 ·exact hQ 8 h (.inr (.inl ⟨by omega,rfl⟩)) (.refl h)
 rw[e_ofNat hA];refine chk_loop hA hlow hl (by omega) rfl (fun h' e kn K w x'=>?_) (fun h' kn K w x'=>?_) N 0 h (by omega) (by omega) (by omega) (fun j j0 j1=>by omega) (.refl h)
 ·refine zc ?_
  exact hQ 8 h' (.inr (.inr (.inl ⟨by omega,w,rfl⟩))) x'
 ·refine zc ?_
  exact hQ 0 h' (.inr (.inr (.inr ⟨by omega,w,rfl⟩))) x'
theorem rchk_loop{h0:AHeap}(hlow:h0.low<=h0.next){a:Option Addr}{N c:Nat}{l:List Int}(hl:Is h0 a N l)(hN:N<=5){Q:Exit->SS->Prop}
  (hbad:∀h' e kn K,¬goodL l->Ext h0 h'->Q .ret ⟨(2,.int .i64 8) :: e,kn,K,h'⟩)
  (hok:∀h' kn K,goodL l->Ext h0 h'->Q (.exit 0) ⟨[],kn,K,h'⟩) :
  ∀(m:Nat) (i:Int) (h:AHeap),(N-i).toNat<=m->0<=i->i<=N->(∀j:Int,0<=j->j<i->goodAt l j)->Ext h0 h->
   head 19 6 0 ⟨[(0,.slice a N c),(3,.int .i64 i)],0,[],h⟩ Q:=by
 have lN:=hl.len;refine upTo (fun m ih=>?_);intro i h hm i0 i1 hall he;by_cases ci:i<N
 rotate_left
 ·refine hA.roundR Try.func19 r19_ok (zc ?_)
  refine br (i<N) (by rw[e_lss hA,e_ofNat hA]) (fun q=>by omega) (fun _=>?_)<;>refine zc ?_;exact hok h _ _ (fun j j0 j1=>hall j j0 (by omega)) he
 obtain⟨m,rfl⟩:∃k,m=k+1:=⟨m-1,by omega⟩
 replace ih:=ih m rfl
 obtain⟨h9,hh9⟩:∃z,z=bump h 28:=⟨_,rfl⟩;have x9:Ext h h9:=by rw[hh9];exact ext_bump hA _ _
 have e9:=he.trans x9;obtain⟨b,o,x,rfl,_,hg,r1⟩:=is_at (hl.ext e9) (i:=i) i0 ci;have q1:=rd_ok hA r1;have no:¬goodAt l i->¬goodL l:=fun w q=>w (q i i0 (by omega))
 refine hA.roundR Try.func19 r19_ok (zc ?_);refine br (i<N) (by rw[e_lss hA,e_ofNat hA]) (fun _=>?_) (fun q=>by omega)<;>refine zc ?_;rw[<-hh9];refine zq ?_;refine br (x<0) (by rw[e_lss hA]) (fun q=>?_) (fun c0=>?_)<;>refine zc ?_
 ·exact hbad h9 _ _ _ (no (fun w=>by have:=w.1;omega)) e9
 refine zq ?_;refine br (31<x) (by rw[e_gtr hA]) (fun q=>?_) (fun c1=>?_)<;>refine zc ?_
 ·exact hbad h9 _ _ _ (no (fun w=>by have:=w.2.1;omega)) e9
 have next:goodAt l i->head 19 6 0 ⟨[(0,.slice (some ⟨b,o,none⟩) N c),(3,.int .i64 (i+1))],0,[],h9⟩ Q:=fun g=>by
  refine ih (i+1) h9 (by omega) (by omega) (by omega) (fun j j0 j1=>?_) e9;by_cases e:j=i
  ·rw[e];exact g
  ·exact hall j j0 (by omega)
 refine br (0<i) (by rw[e_gtr hA]) (fun ip=>?_) (fun ip=>?_)<;>refine zc ?_
 ·obtain⟨b2,o2,y,e2,_,hg2,r2⟩:=is_at (hl.ext e9) (i:=i-1) (by omega) (by omega)
  cases e2;have q2:=rd_ok hA r2;have es:arith .sub .i64 i 1=i-1:=sub64 hA (by omega) (by omega);obtain⟨j,hj⟩:∃z,z=i-1:=⟨_,rfl⟩;rw[<-hj]at q2 hg2 es
  (refine zq ?_;repeat ((first|rw[es]);refine zq ?_))
  refine br (x<=y) (by rw[e_leq hA]) (fun q=>?_) (fun c2=>?_)<;>refine zc ?_
  ·exact hbad h9 _ _ _ (no (fun w=>by have:=w.2.2 ip;rw[<-hj]at this;omega)) e9
  rw[add64 hA (by omega) (by omega)];exact next ⟨by omega,by omega,fun _=>by rw[<-hj];omega⟩
 ·rw[add64 hA (by omega) (by omega)]
  exact next ⟨by omega,by omega,fun q=>absurd q ip⟩
theorem rchk_ok{h:AHeap}(hlow:h.low<=h.next){a:Option Addr}{N c:Nat}{l:List Int}(hl:Is h a N l){Q:Value->AHeap->Prop}
  (hQ:∀e h',CheckL l e->Ext h h'->Q (.int .i64 e) h'):call 19 [.slice a N c] h Q:=by
 have lN:=hl.len;refine hA.bodyR Try.func19 r19_ok (hA.alike _ _ _ rfl) hlow (zc ?_);refine br (5<(N:Int)) (by rw[e_gtr hA,e_ofNat hA]) (fun q=>?_) (fun n5=>?_)<;>refine zc ?_
 ·exact hQ 4 h (.inl ⟨by omega,rfl⟩) (.refl h)
 refine br ((N:Int)<2) (by rw[e_lss hA,e_ofNat hA]) (fun q=>?_) (fun n2=>?_)<;>refine zc ?_
 ·exact hQ 8 h (.inr (.inl ⟨by omega,rfl⟩)) (.refl h)
 refine rchk_loop hA hlow hl (by omega) (fun h' e kn K w x'=>?_) (fun h' kn K w x'=>?_) N 0 h (by omega) (by omega) (by omega) (fun j j0 j1=>by omega) (.refl h)
 ·refine zc ?_
  exact hQ 8 h' (.inr (.inr (.inl ⟨by omega,w,rfl⟩))) x'
 ·refine zc ?_
  exact hQ 0 h' (.inr (.inr (.inr ⟨by omega,w,rfl⟩))) x'
theorem at_loop{h0:AHeap}{a:Option Addr}{N c:Nat}{l:List Int}(hl:Is h0 a N l)(hN:N<=100000){x:Int}{Q:Exit->SS->Prop}
  (hbad:∀e kn K r,r=ixI l x->0<=r->Q .ret ⟨(4,.int .i64 r) :: e,kn,K,h0⟩)
  (hok:∀kn K,ixI l x=-1->Q (.exit 0) ⟨[],kn,K,h0⟩) :
  ∀(m:Nat) (i:Int),(N-i).toNat<=m->0<=i->i<=N->ixI l x=ixFrom x (l.drop i.toNat) i->
   head 54 2 0 ⟨[(0,.slice a N c),(1,.int .i64 x),(5,.int .i64 i)],0,[],h0⟩ Q:=by
 have lN:=hl.len;refine upTo (fun m ih=>?_);intro i hm i0 i1 hi;by_cases ci:i<N
 rotate_left
 ·refine hA.roundR Try.func54 r54_ok (zc ?_)
  refine br (i<N) (by rw[e_lss hA,e_ofNat hA]) (fun q=>by omega) (fun _=>?_)<;>refine zc ?_;exact hok _ _ (by rw[hi,ixFrom_end l x (by omega)])
 obtain⟨m,rfl⟩:∃k,m=k+1:=⟨m-1,by omega⟩
 replace ih:=ih m rfl
 obtain⟨b,o,y,rfl,_,hg,r1⟩:=is_at hl (i:=i) i0 ci;have q1:=rd_ok hA r1;rw[ixFrom_step l x i0 (by omega),hg]at hi;refine hA.roundR Try.func54 r54_ok (zc ?_);refine br (i<N) (by rw[e_lss hA,e_ofNat hA]) (fun _=>?_) (fun q=>by omega)<;>refine zc ?_;refine zq ?_;refine br (y=x) (by rw[e_eql hA]) (fun q=>?_) (fun q=>?_)<;>refine zc ?_
 ·rw[if_pos q]at hi
  exact hbad _ _ _ i hi.symm i0
 rw[if_neg q]at hi;rw[add64 hA (by omega) (by omega)];exact ih (i+1) (by omega) (by omega) (by omega) hi
theorem at_ok{h:AHeap}(hlow:h.low<=h.next){a:Option Addr}{N c:Nat}{l:List Int}(hl:Is h a N l)(hN:N<=100000){x:Int}{Q:Value->AHeap->Prop}
  (hQ:∀r,r=ixI l x->Q (.int .i64 r) h):call 54 [.slice a N c,.int .i64 x] h Q:=by
 refine hA.bodyR Try.func54 r54_ok (hA.alike _ _ _ rfl) hlow (zc ?_);refine at_loop hA hl hN (fun e kn K r hr r0=>?_) (fun kn K hr=>?_) N 0 (by omega) (by omega) (by omega) rfl
 ·refine zc ?_
  exact hQ r hr
 ·refine zc ?_
  exact hQ (-1) hr.symm
theorem index_loop{h0:AHeap}{a:Option Addr}{N c:Nat}{l:List Int}(hl:Is h0 a N l)(hN:N<=100000){NN:Int}(hNN:NN=N){x:Int}{Q:Exit->SS->Prop}
  (hbad:∀e kn K r,r=ixI l x->0<=r->Q .ret ⟨(4,.int .i64 r) :: e,kn,K,h0⟩)
  (hok:∀kn K,ixI l x=-1->Q (.exit 0) ⟨[],kn,K,h0⟩) :
  ∀(m:Nat) (i:Int),(N-i).toNat<=m->0<=i->i<=N->ixI l x=ixFrom x (l.drop i.toNat) i->
   head 53 2 0 ⟨[(0,.slice a N c),(1,.int .i64 x),(7,.int .i64 NN),(8,.int .i64 i)],0,[],h0⟩ Q:=by
 have lN:=hl.len;refine upTo (fun m ih=>?_);intro i hm i0 i1 hi;by_cases ci:i<N
 rotate_left
 ·refine hA.roundR Try.func53 r53_ok (zc ?_)
  refine br (i<NN) (by rw[e_lss hA]) (fun q=>by omega) (fun _=>?_)<;>refine zc ?_;exact hok _ _ (by rw[hi,ixFrom_end l x (by omega)])
 obtain⟨m,rfl⟩:∃k,m=k+1:=⟨m-1,by omega⟩
 replace ih:=ih m rfl
 obtain⟨b,o,y,rfl,_,hg,r1⟩:=is_at hl (i:=i) i0 ci;have q1:=rd_ok hA r1;rw[ixFrom_step l x i0 (by omega),hg]at hi;refine hA.roundR Try.func53 r53_ok (zc ?_);refine br (i<NN) (by rw[e_lss hA]) (fun _=>?_) (fun q=>by omega)<;>refine zc ?_;refine zq ?_;refine br (x=y) (by rw[e_eql hA]) (fun q=>?_) (fun q=>?_)<;>refine zc ?_
 ·rw[if_pos q.symm]at hi
  exact hbad _ _ _ i hi.symm i0
 rw[if_neg (fun w=>q w.symm)]at hi;rw[add64 hA (by omega) (by omega)];exact ih (i+1) (by omega) (by omega) (by omega) hi
theorem index_ok{h:AHeap}(hlow:h.low<=h.next){a:Option Addr}{N c:Nat}{l:List Int}(hl:Is h a N l)(hN:N<=100000){x:Int}{Q:Value->AHeap->Prop}
  (hQ:∀r,r=ixI l x->Q (.int .i64 r) h):call 53 [.slice a N c,.int .i64 x] h Q:=by
 refine hA.bodyR Try.func53 r53_ok (hA.alike _ _ _ rfl) hlow (zc ?_);rw[e_ofNat hA];refine index_loop hA hl hN rfl (fun e kn K r hr r0=>?_) (fun kn K hr=>?_) N 0 (by omega) (by omega) (by omega) rfl
 ·refine zc ?_
  exact hQ r hr
 ·refine zc ?_
  exact hQ (-1) hr.symm
theorem contains_ok{h:AHeap}(hlow:h.low<=h.next){a:Option Addr}{N c:Nat}{l:List Int}(hl:Is h a N l)(hN:N<=100000){x:Int}{Q:Value->AHeap->Prop}
  (hQ:∀r:Bool,(r=true↔x∈l)->Q (.bool r) h):call 60 [.slice a N c,.int .i64 x] h Q:=by
 refine hA.bodyR Try.func60 r60_ok (hA.alike _ _ _ rfl) hlow (zc ?_);refine index_ok hA hlow hl hN (fun r hr=>⟨_,rfl,?_⟩);refine zc ?_;refine hQ _ ?_;rw[e_geq hA,decide_eq_true_iff,hr,ixI_ge]
