import Derived.Test.YtnokkniofajnhaaSortH
import Derived.Test.YtnokkniofajnhaaQuD
set_option linter.unusedSimpArgs false
set_option linter.unusedVariables false
namespace Go.Proofs.Ytnokkniofajnhaa
open Go.Sim
set_option maxRecDepth 100000
structure F2 where
 n : Int
 d : Int
instance : Inhabited F2:=⟨⟨0,1⟩⟩
def F2.cells (x : F2) : List Value:=[.int .i64 x.n,.int .i64 x.d]
theorem f2_len (x : F2) : x.cells.length = 2:=rfl
def F2.q (x : F2) : Rat:=rq x.n x.d
def leF (x y : F2) : Prop:=x.q ≤ y.q
theorem leF_pre : Pre leF:=⟨fun x => Rat.le_refl,fun x y z => Rat.le_trans,fun x y => by unfold leF;exact Rat.le_total⟩
structure Dat (h0 h : AHeap) (b n : Nat) (L : List F2) : Prop where
 ext : Ext h0 h
 own : Own h b 2 (L.flatMap F2.cells)
 old : h0.next ≤ b
 lt : b < h.next
 len : L.length = n
 ok : ∀ i : Int,0 ≤ i → i < n → okF (gt L i).n (gt L i).d
 few : n ≤ 100000
theorem Dat.more {h0 h h' : AHeap} {b n : Nat} {L : List F2} (t : Dat h0 h b n L) (e : Ext h h') : Dat h0 h' b n L:=
 ⟨t.ext.trans e,t.own.ext e t.lt,t.old,Nat.lt_of_lt_of_le t.lt e.next,t.len,t.ok,t.few⟩
theorem Dat.read {h0 h : AHeap} {b n : Nat} {L : List F2} (t : Dat h0 h b n L) {i : Int} (i0 : 0 ≤ i) (i1 : i < n) : ∃ x y,gt L i = ⟨x,y⟩ ∧ isF x y (gt L i).q ∧ h.readG ⟨b,0 + i.toNat * 2,none⟩ 2 = some [.int .i64 x,.int .i64 y]:=by
 have r : Rows F2.cells 2 h (some ⟨b,0,none⟩) L.length L:=Own.rows t.own f2_len (by omega) t.lt
 obtain ⟨b',o',e,_,h3⟩:=r.at i0 (by rw [t.len];exact i1)
 cases e
 exact ⟨(gt L i).n,(gt L i).d,rfl,(t.ok i i0 i1).is,h3 0 2 (by omega) (by omega)⟩
theorem Dat.put {h0 h : AHeap} {b n : Nat} {L : List F2} (t : Dat h0 h b n L) {i : Int} (i0 : 0 ≤ i) (i1 : i < n) {x : F2} (hx : okF x.n x.d) : ∃ h',h.write b (i.toNat * 2) x.cells = some h' ∧ Dat h0 h' b n (L.set i.toNat x):=by
 obtain ⟨h',w1,w2,w3⟩:=Own.setRow t.own f2_len (i:=i.toNat) (by have:=t.len;omega) x
 refine ⟨h',w1,w3.ext t.ext t.old,w2,t.old,by rw [w3.next];exact t.lt,by rw [List.length_set];exact t.len,fun j j0 j1 => ?_,t.few⟩
 rw [gt_set L i0 j0 (by have:=t.len;omega)]
 split
 ·exact hx
 ·exact t.ok j j0 j1
variable {F : Prims} {call head arith b0 c0 d0 e0 f0 g0 k0 l0 m0 n0 place o0 nz q0 rd wr r0 next s0 t0 u0 v0 w0 x0 y0 z0 a1 b1 d1 k1 l1 fresh lowered bump m1 n1 lt ne s1 u1 v1 yn z1 a2 b2 c2 d2 e2 : _} (hA : AP F ⟨call,head,arith,b0,c0,d0,e0,f0,g0,k0,l0,m0,n0,place,o0,nz,q0,rd,wr,r0,next,s0,t0,u0,v0,w0,x0,y0,z0,a1,b1,d1,k1,l1,fresh,lowered,bump,m1,n1,lt,ne,s1,u1,v1,yn,z1,a2,b2,c2,d2,e2⟩)
include hA
theorem dat_swap {h0 h : AHeap} {b n : Nat} {L : List F2} (t : Dat h0 h b n L) {i j : Int} (i0 : 0 ≤ i) (i1 : i < n) (j0 : 0 ≤ j) (j1 : j < n) {x1 y1 x2 y2 : Int} (g1 : gt L i = ⟨x1,y1⟩) (g2 : gt L j = ⟨x2,y2⟩) :
  ∃ h1 h2,wr h b (place 0 i 2) [.int .i64 x2,.int .i64 y2] h1 ∧ wr h1 b (place 0 j 2) [.int .i64 x1,.int .i64 y1] h2 ∧ Dat h0 h2 b n (swapL L i j):=by
 have o1:=t.ok i i0 i1
 have o2:=t.ok j j0 j1
 rw [g1] at o1
 rw [g2] at o2
 obtain ⟨h1,w1,t1⟩:=t.put i0 i1 (x:=⟨x2,y2⟩) o2
 obtain ⟨h2,w2,t2⟩:=t1.put j0 j1 (x:=⟨x1,y1⟩) o1
 refine ⟨h1,h2,wr_ok hA (by rw [Nat.zero_add];exact w1),wr_ok hA (by rw [Nat.zero_add];exact w2),?_⟩
 unfold swapL
 rw [g1,g2]
 exact t2
theorem dat_low {h0 h h' : AHeap} (hlow : h0.low ≤ h0.next) {b n : Nat} {L : List F2} (t : Dat h0 h b n L) (x : Ext (fresh h) h') : Dat h0 (lowered h h') b n L:=
 t.more (ext_low hA (t.ext.lowOK hlow) (.refl h) x)
theorem ins_inner {h0 : AHeap} (hlow : h0.low ≤ h0.next) {b n c : Nat} {L0 : List F2} {A B i : Int} (a0 : 0 ≤ A) (ab : B ≤ n) (ai : A < i) (ib : i < B) {Q : Exit → SS → Prop}
  (hQ : ∀ h' L kn,Dat h0 h' b n L → PermOn A B L0 L → SortedOn leF L A (i + 1) → Q (.exit 2) ⟨[(0,.slice (some ⟨b,0,none⟩) n c),(1,.int .i64 A),(2,.int .i64 B),(3,.func (.func 34) #[] #[]),(8,.int .i64 i)],kn,[],h'⟩) :
  ∀ (m : Nat) (j : Int) (h : AHeap) (L : List F2),(j - A).toNat ≤ m → A ≤ j → j ≤ i → Dat h0 h b n L → PermOn A B L0 L → InsOn leF L A i j →
   head 89 4 0 ⟨[(0,.slice (some ⟨b,0,none⟩) n c),(1,.int .i64 A),(2,.int .i64 B),(3,.func (.func 34) #[] #[]),(8,.int .i64 i),(9,.int .i64 j)],0,[],h⟩ Q:=by
 intro m
 induction m with
 | zero =>
  intro j h L hm j0 j1 t hp hI
  obtain rfl : j = A:=by omega
  refine hA.roundR Try.func89 r89_ok (zc ?_)
  refine br (j < j) (by rw [e_gtr hA]) (fun q => by omega) (fun _ => ?_) <;> refine zc ?_
  exact hQ _ _ _ (t.more (ext_bump hA _ _)) hp hI.first
 | succ m ih =>
  intro j h L hm j0 j1 t hp hI
  by_cases cj : A < j
  rotate_left
  ·obtain rfl : j = A:=by omega
   refine hA.roundR Try.func89 r89_ok (zc ?_)
   refine br (j < j) (by rw [e_gtr hA]) (fun q => by omega) (fun _ => ?_) <;> refine zc ?_
   exact hQ _ _ _ (t.more (ext_bump hA _ _)) hp hI.first
  have few:=t.few
  have e1 : arith .sub .i64 j 1 = j - 1:=sub64 hA (by omega) (by omega)
  obtain ⟨j',hj'⟩ : ∃ z,z = j - 1:=⟨_,rfl⟩
  rw [← hj'] at e1
  obtain ⟨h9,hh9⟩ : ∃ z,z = bump h 17:=⟨_,rfl⟩
  have x9 : Ext h h9:=by rw [hh9];exact ext_bump hA _ _
  have t9:=t.more x9
  have l9:=t9.ext.lowOK hlow
  obtain ⟨x1,y1,g1,f1,r1⟩:=t9.read (i:=j) (by omega) (by omega)
  obtain ⟨x2,y2,g2,f2,r2⟩:=t9.read (i:=j') (by omega) (by omega)
  have q1:=rd_ok hA r1
  have q2:=rd_ok hA r2
  refine hA.roundR Try.func89 r89_ok (zc ?_)
  refine br (A < j) (by rw [e_gtr hA]) (fun _ => ?_) (fun q => absurd cj q) <;> refine zc ?_
  rw [← hh9]
  (refine zq ?_;repeat ((first | rw [e1]);refine zq ?_))
  refine qorder_ok hA (low_fresh hA h9) f1 f2 (fun u h10 hu x10 => ⟨_,rfl,?_⟩)
  refine zc ?_
  obtain ⟨h11,hh11⟩ : ∃ z,z = lowered h9 h10:=⟨_,rfl⟩
  have e11 : Ext h9 h11:=by rw [hh11];exact ext_low hA l9 (.refl h9) x10
  have t11:=t9.more e11
  rw [← hh11]
  refine br (u < 0) (by rw [e_lss hA]) (fun c1 => ?_) (fun c1 => ?_) <;> refine zc ?_
  rotate_left
  ·refine hQ _ _ _ t11 hp (hI.stop leF_pre cj ?_)
   rw [← hj']
   rw [hu] at c1
   exact Rat.not_lt.1 (fun w => c1 (cmpF_lt.2 w))
  have w : ¬ leF (gt L (j - 1)) (gt L j):=by
   rw [← hj']
   rw [hu] at c1
   exact Rat.not_le.2 (cmpF_lt.1 c1)
  obtain ⟨h12,hh12⟩ : ∃ z,z = bump h11 18:=⟨_,rfl⟩
  have x12 : Ext h11 h12:=by rw [hh12];exact ext_bump hA _ _
  have t12:=t11.more x12
  obtain ⟨x1',y1',g1',_,r1'⟩:=t12.read (i:=j) (by omega) (by omega)
  obtain ⟨x2',y2',g2',_,r2'⟩:=t12.read (i:=j') (by omega) (by omega)
  rw [g1] at g1'
  rw [g2] at g2'
  cases g1'
  cases g2'
  have q1':=rd_ok hA r1'
  have q2':=rd_ok hA r2'
  obtain ⟨h13,h14,p1,p2,t14⟩:=dat_swap hA t12 (i:=j) (j:=j') (by omega) (by omega) (by omega) (by omega) g1 g2
  rw [← hh12]
  (refine zq ?_;repeat ((first | rw [e1]);refine zq ?_))
  refine ih j' h14 _ (by omega) (by omega) (by omega) t14 (hp.trans (PermOn.swap L (by omega) (by rw [t.len];exact ab) (by omega) (by omega) (by omega) (by omega))) ?_
  have:=hI.step leF_pre (by omega) (by rw [t.len];omega) cj j1 w
  rw [← hj'] at this
  exact this
theorem ins_outer {h0 : AHeap} (hlow : h0.low ≤ h0.next) {b n c : Nat} {L0 : List F2} {A B : Int} (a0 : 0 ≤ A) (ab : B ≤ n) {Q : Exit → SS → Prop}
  (hQ : ∀ h' L e kn,Dat h0 h' b n L → PermOn A B L0 L → SortedOn leF L A B → Q (.exit 0) ⟨e,kn,[],h'⟩) :
  ∀ (m : Nat) (i : Int) (h : AHeap) (L : List F2),(B - i).toNat ≤ m → A < i → Dat h0 h b n L → PermOn A B L0 L → SortedOn leF L A i →
   head 89 1 0 ⟨[(0,.slice (some ⟨b,0,none⟩) n c),(1,.int .i64 A),(2,.int .i64 B),(3,.func (.func 34) #[] #[]),(8,.int .i64 i)],0,[],h⟩ Q:=by
 intro m
 induction m with
 | zero =>
  intro i h L hm i0 t hp hs
  refine hA.roundR Try.func89 r89_ok (zc ?_)
  refine br (i < B) (by rw [e_lss hA]) (fun q => by omega) (fun _ => ?_) <;> refine zc ?_
  exact hQ _ _ _ _ t hp (fun p q p0 pq q1 => hs p q p0 pq (by omega))
 | succ m ih =>
  intro i h L hm i0 t hp hs
  have few:=t.few
  refine hA.roundR Try.func89 r89_ok (zc ?_)
  refine br (i < B) (by rw [e_lss hA]) (fun ci => ?_) (fun _ => ?_) <;> refine zc ?_
  rotate_left
  ·exact hQ _ _ _ _ t hp (fun p q p0 pq q1 => hs p q p0 pq (by omega))
  refine ins_inner hA hlow (L0:=L0) a0 ab i0 ci (fun h' L' kn t' hp' hs' => ?_) (i - A).toNat i h L (Nat.le_refl _) (by omega) (by omega) t hp (.start hs)
  refine zc ?_
  rw [add64 hA (by omega) (by omega)]
  exact ih (i + 1) h' L' (by omega) (by omega) t' hp' hs'
theorem ins_ok {h0 h : AHeap} (hlow : h0.low ≤ h0.next) {b n c : Nat} {L : List F2} {A B : Int} (a0 : 0 ≤ A) (an : A ≤ n) (ab : B ≤ n) (t : Dat h0 h b n L) {Q : Value → AHeap → Prop}
  (hQ : ∀ h' L',Dat h0 h' b n L' → PermOn A B L L' → SortedOn leF L' A B → Q (.tuple #[]) h') : call 89 [.slice (some ⟨b,0,none⟩) n c,.int .i64 A,.int .i64 B,.func (.func 34) #[] #[]] h Q:=by
 have hlow':=hlow
 replace hlow:=t.ext.lowOK hlow
 have few:=t.few
 refine hA.bodyR Try.func89 r89_ok (hA.alike _ _ _ rfl) hlow (zc ?_)
 rw [add64 hA (by omega) (by omega)]
 refine ins_outer hA hlow' (L0:=L) a0 ab (fun h' L' e kn t' hp hs => ?_) (B - (A + 1)).toNat (A + 1) h L (Nat.le_refl _) (by omega) t (.refl _ _ _) (.one (by omega))
 refine zc ?_
 exact hQ h' L' t' hp hs
