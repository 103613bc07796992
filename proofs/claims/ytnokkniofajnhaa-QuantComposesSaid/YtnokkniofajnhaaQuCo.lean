import Derived.Test.YtnokkniofajnhaaQuO
import Derived.Test.YtnokkniofajnhaaSymSlc
set_option linter.unusedSimpArgs false
set_option linter.unusedVariables false
namespace Go.Proofs.Ytnokkniofajnhaa
open Go.Sim
set_option maxRecDepth 100000
theorem T69 : SliceT Try.prog 69 24 2:=⟨by kernel_rfl,by kernel_rfl,⟨16,by kernel_rfl,by omega⟩,⟨.agg #[.int .i64 0,.int .i64 0],by kernel_rfl,rfl⟩⟩
def StrictOn (L : List F2) (a b : Int) : Prop:=∀ p q : Int,a ≤ p → p < q → q < b → (gt L p).q < (gt L q).q
theorem f2_eq {x y : F2} (hx : okF x.n x.d) (hy : okF y.n y.d) (h : x.q = y.q) : x = y:=by
 obtain ⟨xn,xd⟩:=x
 obtain ⟨yn,yd⟩:=y
 obtain ⟨a1,a2,_⟩:=hx.is
 obtain ⟨b1,b2,_⟩:=hy.is
 have e : rq xn xd = rq yn yd:=h
 simp only [] at a1 a2 b1 b2
 have e1 : xn = yn:=by
  have:=congrArg Rat.num e
  rw [← a1,← b1] at this
  exact this
 have e2 : xd = yd:=by
  have:=congrArg (fun q : Rat => (q.den : Int)) e
  replace this : ((rq xn xd).den : Int) = (rq yn yd).den:=this
  rw [← a2,← b2] at this
  exact this
 rw [e1,e2]
theorem Dat.lt_of {h0 h : AHeap} {b n : Nat} {L : List F2} (t : Dat h0 h b n L) (s : SortedOn leF L 0 n) {p q : Int} (p0 : 0 ≤ p) (pq : p < q) (q1 : q < n) (ne : gt L p ≠ gt L q) : (gt L p).q < (gt L q).q:=by
 have h1:=s p q p0 pq q1
 refine Rat.lt_of_le_of_ne h1 (fun e => ne (f2_eq (t.ok p p0 (by omega)) (t.ok q (by omega) q1) e))
theorem StrictOn.next {L : List F2} {k : Int} (h : StrictOn L 0 k) (k0 : 1 ≤ k) (w : (gt L (k - 1)).q < (gt L k).q) : StrictOn L 0 (k + 1):=by
 intro p q p0 pq q1
 by_cases e : q = k
 ·rw [e]
  by_cases e2 : p = k - 1
  ·rw [e2];exact w
  ·have:=h p (k - 1) p0 (by omega) (by omega)
   grind
 ·exact h p q p0 pq (by omega)
structure Cmp (L W : List F2) (k e : Int) : Prop where
 k0 : 1 ≤ k
 ke : k < e
 en : e ≤ L.length
 len : W.length = L.length
 strict : StrictOn W 0 k
 last : gt W (k - 1) = gt L (e - 1)
 rest : ∀ j : Int,k ≤ j → j < L.length → gt W j = gt L j
 m1 : ∀ p : Int,0 ≤ p → p < k → ∃ q : Int,0 ≤ q ∧ q < e ∧ gt W p = gt L q
 m2 : ∀ q : Int,0 ≤ q → q < e → ∃ p : Int,0 ≤ p ∧ p < k ∧ gt W p = gt L q
theorem Own.rowsAhead {α : Type} {enc : α → List Value} {es : Nat} {h : AHeap} {b : Nat} {l : List α} {r : List Value} (c : Own h b es (l.flatMap enc ++ r)) (he : ∀ x,(enc x).length = es) (hp : 0 < es) (hb : b < h.next) : Rows enc es h (some ⟨b,0,none⟩) l.length l:=by
 refine ⟨⟨rfl,hb,?_⟩,he,hp⟩
 have hl:=flatE_len he (l:=l)
 have:=c.readG (o:=0) (n:=l.length * es) (by rw [List.length_append];omega)
 rw [this,List.drop_zero,← hl,List.take_left']
 rfl
theorem take_flat (W : List F2) : ∀ k : Nat,(W.flatMap F2.cells).take (k * 2) = (W.take k).flatMap F2.cells:=by
 induction W with
 | nil => intro k;simp
 | cons x W ih =>
  intro k
  cases k with
  | zero => simp
  | succ k =>
   rw [List.take_succ_cons,List.flatMap_cons,List.flatMap_cons,← ih k,show (k + 1) * 2 = x.cells.length + k * 2 by rw [f2_len];omega,List.take_length_add_append]
theorem copies_len (m : Nat) : (copies [.int .i64 0,.int .i64 0] m).length = m * 2 ∧ (copies [.int .i64 0,.int .i64 0] m).all cellOK = true:=by
 induction m with
 | zero => exact ⟨rfl,rfl⟩
 | succ m ih =>
  unfold copies
  constructor
  ·rw [List.length_append,ih.1];simp;omega
  ·rw [List.all_append,ih.2];rfl
theorem gt_takeLt {α : Type} [Inhabited α] (W : List α) {k : Nat} {p : Int} (p0 : 0 ≤ p) (p1 : p < k) : gt (W.take k) p = gt W p:=by
 unfold gt
 rw [List.getD_eq_getElem?_getD,List.getD_eq_getElem?_getD,List.getElem?_take]
 rw [if_pos (by omega)]
theorem Cmp.skip {L W : List F2} {k e : Int} (h : Cmp L W k e) (en : e < L.length) (w : gt L e = gt L (e - 1)) : Cmp L W k (e + 1):=by
 have k0:=h.k0
 have ke:=h.ke
 refine ⟨h.k0,by omega,by omega,h.len,h.strict,?_,h.rest,fun p p0 p1 => ?_,fun q q0 q1 => ?_⟩
 ·rw [h.last,← w];congr 1;omega
 ·obtain ⟨q,a,b,c⟩:=h.m1 p p0 p1
  exact ⟨q,a,by omega,c⟩
 ·by_cases z : q = e
  ·exact ⟨k - 1,by omega,by omega,by rw [z,w,h.last]⟩
  ·exact h.m2 q q0 (by omega)
theorem Cmp.put {L W : List F2} {k e : Int} (h : Cmp L W k e) (en : e < L.length) (w : (gt L (e - 1)).q < (gt L e).q) : Cmp L (W.set k.toNat (gt L e)) (k + 1) (e + 1):=by
 have k0:=h.k0
 have ke:=h.ke
 have len:=h.len
 have g : ∀ j : Int,0 ≤ j → gt (W.set k.toNat (gt L e)) j = if j = k then gt L e else gt W j:=fun j j0 => gt_set W (by omega) j0 (by omega) _
 refine ⟨by omega,by omega,by omega,by rw [List.length_set];exact len,?_,?_,fun j j0 j1 => ?_,fun p p0 p1 => ?_,fun q q0 q1 => ?_⟩
 ·refine StrictOn.next (fun p q p0 pq q1 => ?_) k0 ?_
  ·rw [g p p0,g q (by omega),if_neg (by omega),if_neg (by omega)]
   exact h.strict p q p0 pq q1
  ·rw [g _ (by omega),g _ (by omega),if_neg (by omega),if_pos rfl,h.last]
   exact w
 ·rw [g _ (by omega),if_pos (by omega)];congr 1;omega
 ·rw [g _ (by omega),if_neg (by omega)];exact h.rest j (by omega) j1
 ·rw [g p p0]
  split
  ·exact ⟨e,by omega,by omega,rfl⟩
  ·obtain ⟨q,a,b,c⟩:=h.m1 p p0 (by omega)
   exact ⟨q,a,by omega,c⟩
 ·by_cases z : q = e
  ·exact ⟨k,by omega,by omega,by rw [g _ (by omega),if_pos rfl,z]⟩
  ·obtain ⟨p,a,b,c⟩:=h.m2 q q0 (by omega)
   exact ⟨p,a,by omega,by rw [g p a,if_neg (by omega)];exact c⟩
theorem Cmp.start {L : List F2} {k : Int} (k0 : 1 ≤ k) (k1 : k < L.length) (s : StrictOn L 0 k) (w : gt L k = gt L (k - 1)) : Cmp L L k (k + 1):=by
 refine ⟨k0,by omega,by omega,rfl,s,by rw [← w];congr 1;omega,fun _ _ _ => rfl,fun p p0 p1 => ⟨p,p0,by omega,rfl⟩,fun q q0 q1 => ?_⟩
 by_cases z : q = k
 ·exact ⟨k - 1,by omega,by omega,by rw [z,w]⟩
 ·exact ⟨q,q0,by omega,rfl⟩
variable {F : Prims} {call head arith a0 b0 bnot c0 d0 e0 f0 g0 i0 l0 place m0 nz n0 rd wr o0 next r0 s0 t0 u0 v0 cut slc w0 x0 y0 z0 c1 d1 f1 g1 bump i1 l1 lt ne n1 o1 r1 yn s1 t1 u1 v1 w1 x1 : _} (hA : AP F ⟨call,head,arith,a0,b0,bnot,c0,d0,e0,f0,g0,i0,l0,place,m0,nz,n0,rd,wr,o0,next,r0,s0,t0,u0,v0,cut,slc,w0,x0,y0,z0,c1,d1,f1,g1,bump,i1,l1,lt,ne,n1,o1,r1,yn,s1,t1,u1,v1,w1,x1⟩)
include hA
theorem compact_2 {h0 : AHeap} (hlow : h0.low ≤ h0.next) {b n c c' o2 n2 : Nat} (hc : c = someCap 2 n) {L : List F2} {k0 : Int} (ho : o2 = k0.toNat * 2) (hn2 : (n2 : Int) = n - k0) (k1 : 1 ≤ k0) (kn : k0 < n) (hL : L.length = n) (hok : ∀ i : Int,0 ≤ i → i < n → okF (gt L i).n (gt L i).d) (hs : SortedOn leF L 0 n) {Q : Exit → SS → Prop}
  (hQ : ∀ h' W k,Dat h0 h' b n W → Cmp L W k n → Q (.exit 2) ⟨[(0,.slice (some ⟨b,0,none⟩) n c),(3,.int .i64 k)],10,[],h'⟩) :
  ∀ (m : Nat) (k j : Int) (h : AHeap) (W : List F2),(n - (k0 + j)).toNat ≤ m → 1 ≤ j → k0 + j ≤ n → Dat h0 h b n W → Cmp L W k (k0 + j) →
   head 61 9 10 ⟨[(0,.slice (some ⟨b,0,none⟩) n c),(3,.int .i64 k),(4,.slice (some ⟨b,o2,none⟩) n2 c'),(5,.int .i64 j)],10,[],h⟩ Q:=by
 intro m
 induction m with
 | zero =>
  intro k j h W hm j0 j1 t hC
  refine hA.roundR Try.func61 r61_ok (zc ?_)
  refine br (j < n2) (by rw [e_lss hA,e_ofNat hA]) (fun q => by omega) (fun q => ?_) <;> refine zc ?_
  exact hQ _ _ _ t (by rwa [show k0 + j = n by omega] at hC)
 | succ m ih =>
  intro k j h W hm j0 j1 t hC
  have few:=t.few
  refine hA.roundR Try.func61 r61_ok (zc ?_)
  refine br (j < n2) (by rw [e_lss hA,e_ofNat hA]) (fun q => ?_) (fun q => ?_) <;> refine zc ?_
  rotate_left
  ·exact hQ _ _ _ t (by rwa [show k0 + j = n by omega] at hC)
  have few' : n2 ≤ 100000:=by omega
  have hlen:=t.len
  obtain ⟨j',hj'⟩ : ∃ z,z = j - 1:=⟨_,rfl⟩
  have e1 : arith .sub .i64 j 1 = j':=by rw [hj'];exact sub64 hA (by omega) (by omega)
  have e2 : arith .add .i64 j 1 = j + 1:=add64 hA (by omega) (by omega)
  have e3 : arith .add .i64 k 1 = k + 1:=add64 hA (by have:=hC.k0;have:=hC.ke;omega) (by have:=hC.ke;omega)
  obtain ⟨h2,hh2⟩ : ∃ z,z = bump h 10:=⟨_,rfl⟩
  have x2 : Ext h h2:=by rw [hh2];exact ext_bump hA _ _
  have t2:=t.more x2
  obtain ⟨a2,b2,g2,f2,r2⟩:=t2.read (i:=k0 + j) (by omega) (by omega)
  obtain ⟨a2',b2',g2',f2',r2'⟩:=t2.read (i:=k0 + j') (by omega) (by omega)
  rw [show 0 + (k0 + j).toNat * 2 = o2 + j.toNat * 2 by omega] at r2
  rw [show 0 + (k0 + j').toNat * 2 = o2 + j'.toNat * 2 by omega] at r2'
  have q2:=rd_ok hA r2
  have q2':=rd_ok hA r2'
  obtain ⟨r,hr1,hr2⟩:=eqF a2 b2 a2' b2'
  rw [← hh2]
  (refine zq ?_;repeat ((first | rw [e1]);refine zq ?_))
  rw [e_eqAgg hA]
  refine ⟨guardF,r,hr1,?_⟩
  have k0':=hC.k0
  have ke:=hC.ke
  have L1 : gt W (k0 + j) = gt L (k0 + j):=hC.rest _ (by omega) (by omega)
  have L2 : gt W (k0 + j') = gt L (k0 + j - 1):=by rw [show k0 + j - 1 = k0 + j' by omega];exact hC.rest _ (by omega) (by omega)
  rw [g2] at L1
  rw [g2'] at L2
  have same : gt L (k0 + j) = gt L (k0 + j - 1) ↔ r = true:=by
   rw [← L1,← L2,hr2]
   constructor
   ·intro q;cases q;exact ⟨rfl,rfl⟩
   ·rintro ⟨rfl,rfl⟩;rfl
  cases r with
  | true =>
   refine zc ?_
   rw [show bnot true = false by rw [e_bnot hA];rfl]
   refine zc ?_
   rw [e2]
   exact ih k (j + 1) h2 W (by omega) (by omega) (by omega) t2 (by have:=hC.skip (by omega) (same.2 rfl);rwa [show k0 + j + 1 = k0 + (j + 1) by omega] at this)
  | false =>
   refine zc ?_
   rw [show bnot false = true by rw [e_bnot hA];rfl]
   obtain ⟨h3,w3,t3⟩:=t2.put (i:=k) (by omega) (by omega) (x:=gt L (k0 + j)) (hok _ (by omega) (by omega))
   rw [← L1] at w3
   have p3 : wr h2 b (place 0 k 2) [.int .i64 a2,.int .i64 b2] h3:=wr_ok hA (by rw [Nat.zero_add];exact w3)
   refine zq ?_
   rw [e3,e2]
   have lt : (gt L (k0 + j - 1)).q < (gt L (k0 + j)).q:=by
    have h1:=hs (k0 + j - 1) (k0 + j) (by omega) (by omega) (by omega)
    refine Rat.lt_of_le_of_ne h1 (fun e => ?_)
    have:=same.1 (f2_eq (hok (k0 + j - 1) (by omega) (by omega)) (hok (k0 + j) (by omega) (by omega)) e).symm
    cases this
   exact ih (k + 1) (j + 1) h3 _ (by omega) (by omega) (by omega) t3 (by have:=hC.put (by omega) lt;rwa [show k0 + j + 1 = k0 + (j + 1) by omega] at this)
theorem compact_1 {h0 : AHeap} (hlow : h0.low ≤ h0.next) {b n c : Nat} (hc : c = someCap 2 n) {L : List F2} (hs : SortedOn leF L 0 n) {Q : Exit → SS → Prop}
  (hQ : ∀ h' W (k : Nat) e kn,k ≤ n → Ext h0 h' → Rows F2.cells 2 h' (some ⟨b,0,none⟩) k W → StrictOn W 0 k → (∀ p : Int,0 ≤ p → p < k → ∃ q : Int,0 ≤ q ∧ q < n ∧ gt W p = gt L q) → (∀ q : Int,0 ≤ q → q < n → ∃ p : Int,0 ≤ p ∧ p < k ∧ gt W p = gt L q) → Q .ret ⟨(2,.slice (some ⟨b,0,none⟩) k c) :: e,kn,[],h'⟩)
  (hQ2 : ∀ h' kn,Dat h0 h' b n L → StrictOn L 0 n → Q (.exit 0) ⟨[(0,.slice (some ⟨b,0,none⟩) n c)],kn,[],h'⟩) :
  ∀ (m : Nat) (k : Int) (h : AHeap),(n - k).toNat ≤ m → 1 ≤ k → k ≤ n → Dat h0 h b n L → StrictOn L 0 k →
   head 61 4 0 ⟨[(0,.slice (some ⟨b,0,none⟩) n c),(3,.int .i64 k)],0,[],h⟩ Q:=by
 intro m
 induction m with
 | zero =>
  intro k h hm k0 k1 t hC
  refine hA.roundR Try.func61 r61_ok (zc ?_)
  refine br (k < n) (by rw [e_lss hA,e_ofNat hA]) (fun q => by omega) (fun q => ?_) <;> refine zc ?_
  exact hQ2 _ _ t (by rwa [show k = n by omega] at hC)
 | succ m ih =>
  intro k h hm k0 k1 t hC
  have few:=t.few
  refine hA.roundR Try.func61 r61_ok (zc ?_)
  refine br (k < n) (by rw [e_lss hA,e_ofNat hA]) (fun ck => ?_) (fun q => ?_) <;> refine zc ?_
  rotate_left
  ·exact hQ2 _ _ t (by rwa [show k = n by omega] at hC)
  obtain ⟨k',hk'⟩ : ∃ z,z = k - 1:=⟨_,rfl⟩
  have e1 : arith .sub .i64 k 1 = k':=by rw [hk'];exact sub64 hA (by omega) (by omega)
  have e2 : arith .add .i64 k 1 = k + 1:=add64 hA (by omega) (by omega)
  obtain ⟨h2,hh2⟩ : ∃ z,z = bump h 10:=⟨_,rfl⟩
  have x2 : Ext h h2:=by rw [hh2];exact ext_bump hA _ _
  have t2:=t.more x2
  obtain ⟨a2,b2,g2,f2,r2⟩:=t2.read (i:=k) (by omega) (by omega)
  obtain ⟨a2',b2',g2',f2',r2'⟩:=t2.read (i:=k') (by omega) (by omega)
  have q2:=rd_ok hA r2
  have q2':=rd_ok hA r2'
  rw [← hh2]
  obtain ⟨r,hr1,hr2⟩:=eqF a2 b2 a2' b2'
  (refine zq ?_;repeat ((first | rw [e1]);refine zq ?_))
  rw [e_eqAgg hA]
  refine ⟨guardF,r,hr1,?_⟩
  have same : gt L k = gt L k' ↔ r = true:=by
   rw [g2,g2',hr2]
   constructor
   ·intro q;cases q;exact ⟨rfl,rfl⟩
   ·rintro ⟨rfl,rfl⟩;rfl
  cases r with
  | false =>
   refine zc ?_
   rw [e2]
   refine ih (k + 1) h2 (by omega) (by omega) (by omega) t2 (hC.next k0 ?_)
   rw [← hk']
   exact t2.lt_of hs (by omega) (by omega) ck (fun e => by have:=same.1 e.symm;cases this)
  | true =>
   refine zc ?_
   obtain ⟨o2,ho⟩ : ∃ z,z = k.toNat * 2:=⟨_,rfl⟩
   obtain ⟨n2,hn2⟩ : ∃ z,z = n - k.toNat:=⟨_,rfl⟩
   obtain ⟨c2,hc2⟩ : ∃ z,z = someCap 2 n2:=⟨_,rfl⟩
   have cut : ∀ (C : Option Addr → Nat → Nat → Prop),C (some ⟨b,o2,none⟩) n2 c2 → slc 69 (.slice (some ⟨b,0,none⟩) n c) (some (.int .i64 k)) none none C:=fun C h => by
    rw [hc]
    refine slc_lo hA T69 (by omega) (by omega) ck ?_
    have : (some ⟨b,0,none⟩ : Option Addr).map (aadd · (k.toNat * 2)) = some ⟨b,o2,none⟩:=by rw [ho];simp [aadd]
    rw [this,← hn2,← hc2]
    exact h
   refine cut _ ?_
   refine zc ?_
   refine compact_2 hA hlow (n:=n) (n2:=n2) (L:=L) hc ho (k0:=k) (by omega) k0 ck t.len t.ok hs (fun h3 W k3 t3 hC3 => ?_) (n - (k + 1)).toNat k 1 h2 L (by omega) (Int.le_refl _) (by omega) t2 (Cmp.start k0 (by rw [t.len];exact ck) hC (by rw [← hk'];exact same.2 rfl))
   refine zc ?_
   have k5:=hC3.k0
   have k6:=hC3.ke
   have k7:=hC3.len
   have few:=t.few
   obtain ⟨kk,hkk⟩ : ∃ z : Nat,z = k3.toNat:=⟨_,rfl⟩
   obtain ⟨h4,w4,o4,r4⟩:=t3.own.write (o:=kk * 2) (vs:=copies [.int .i64 0,.int .i64 0] (n - kk)) (by rw [(copies_len _).1,flatE_len f2_len,t3.len];omega)
   rw [take_flat] at o4
   have hlen : (W.take kk).length = kk:=by rw [List.length_take,t3.len];omega
   have ro:=Own.rowsAhead o4 f2_len (by omega) (by rw [r4.next];exact t3.lt)
   rw [hlen] at ro
   have x4 : Ext h0 h4:=r4.ext t3.ext t3.old
   refine (?_ : ∀ (C : Option Addr → Nat → Nat → Prop),C (some ⟨b,kk * 2,none⟩) (n - kk) (someCap 2 (n - kk)) → slc 69 (.slice (some ⟨b,0,none⟩) n c) (some (.int .i64 k3)) none none C) _ ?_
   ·intro C h
    rw [hc]
    refine slc_lo hA T69 (by omega) (by omega) k6 ?_
    have : (some ⟨b,0,none⟩ : Option Addr).map (aadd · (k3.toNat * 2)) = some ⟨b,kk * 2,none⟩:=by rw [hkk];simp [aadd]
    rw [this,← hkk]
    exact h
   obtain ⟨o5,ho5⟩ : ∃ z,z = kk * 2:=⟨_,rfl⟩
   obtain ⟨n5,hn5⟩ : ∃ z,z = n - kk:=⟨_,rfl⟩
   obtain ⟨c5,hc5⟩ : ∃ z,z = someCap 2 n5:=⟨_,rfl⟩
   rw [← hn5,← hc5,← ho5]
   refine zc ?_
   refine ⟨h4,clr_ok hA T69 (by omega) (z:=.agg #[.int .i64 0,.int .i64 0]) (by kernel_rfl) (copies_len _).2 (by rw [hn5,ho5];exact w4),?_⟩
   refine zc ?_
   refine ⟨by rw [e_cut hA,hc,capLow_some (by unfold slack;omega)];omega,?_⟩
   refine zc ?_
   rw [e_nat hA,← hkk]
   refine hQ h4 _ kk _ _ (by omega) x4 ro (fun p q p0 pq q1 => ?_) (fun p p0 p1 => ?_) (fun q q0 q1 => ?_)
   ·rw [gt_takeLt W p0 (by omega),gt_takeLt W (by omega) q1]
    exact hC3.strict p q p0 pq (by omega)
   ·rw [gt_takeLt W p0 p1]
    exact hC3.m1 p p0 (by omega)
   ·obtain ⟨p,p0,p1,e⟩:=hC3.m2 q q0 q1
    exact ⟨p,p0,by omega,by rw [gt_takeLt W p0 (by omega)];exact e⟩
theorem compact_ok {h0 h : AHeap} (hlow : h0.low ≤ h0.next) {b n c : Nat} (hc : c = someCap 2 n) (n2 : 2 ≤ n) {L : List F2} (t : Dat h0 h b n L) (hs : SortedOn leF L 0 n) {Q : Value → AHeap → Prop}
  (hQ : ∀ h' W (k : Nat),k ≤ n → Ext h0 h' → Rows F2.cells 2 h' (some ⟨b,0,none⟩) k W → StrictOn W 0 k → (∀ p : Int,0 ≤ p → p < k → ∃ q : Int,0 ≤ q ∧ q < n ∧ gt W p = gt L q) → (∀ q : Int,0 ≤ q → q < n → ∃ p : Int,0 ≤ p ∧ p < k ∧ gt W p = gt L q) → Q (.slice (some ⟨b,0,none⟩) k c) h') : call 61 [.slice (some ⟨b,0,none⟩) n c] h Q:=by
 have hlow':=hlow
 replace hlow:=t.ext.lowOK hlow
 have few:=t.few
 refine hA.bodyR Try.func61 r61_ok (hA.alike _ _ _ rfl) hlow (zc ?_)
 refine br ((n : Int) < 2) (by rw [e_lss hA,e_ofNat hA]) (fun q => by omega) (fun _ => ?_) <;> refine zc ?_
 refine compact_1 hA hlow' hc hs (fun h' W k e kn a1 a2 a3 a4 a5 a6 => ?_) (fun h' kn t' s' => ?_) n 1 h (by omega) (Int.le_refl _) (by omega) t (fun p q p0 pq q1 => by omega)
 ·refine zc ?_
  exact hQ h' W k a1 a2 a3 a4 a5 a6
 ·refine zc ?_
  have ro:=Own.rows t'.own f2_len (by omega) t'.lt
  rw [t'.len] at ro
  exact hQ h' L n (Nat.le_refl _) t'.ext ro s' (fun p p0 p1 => ⟨p,p0,p1,rfl⟩) (fun q q0 q1 => ⟨q,q0,q1,rfl⟩)
