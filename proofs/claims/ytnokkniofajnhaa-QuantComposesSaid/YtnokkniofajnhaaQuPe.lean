import Derived.Test.YtnokkniofajnhaaQuPt
set_option linter.unusedSimpArgs false
set_option linter.unusedVariables false
namespace Go.Proofs.Ytnokkniofajnhaa
open Go.Sim
set_option maxRecDepth 100000
structure PartE {α : Type} [Inhabited α] (le : α → α → Prop) (L : List α) (a b i j : Int) : Prop where
 i0 : a < i
 j1 : j < b
 ij : i ≤ j + 1
 low : ∀ p : Int,a < p → p < i → le (gt L p) (gt L a)
theorem PartE.left {α : Type} [Inhabited α] {le : α → α → Prop} {L : List α} {a b i j : Int} (h : PartE le L a b i j) (c : i ≤ j) (w : le (gt L i) (gt L a)) : PartE le L a b (i + 1) j:=
 ⟨by have:=h.i0;omega,h.j1,by omega,fun p p0 p1 => by
  by_cases e : p = i
  ·rw [e];exact w
  ·exact h.low p p0 (by omega)⟩
theorem PartE.right {α : Type} [Inhabited α] {le : α → α → Prop} {L : List α} {a b i j : Int} (h : PartE le L a b i j) (c : i ≤ j) : PartE le L a b i (j - 1):=⟨h.i0,by have:=h.j1;omega,by omega,h.low⟩
theorem PartE.swap {α : Type} [Inhabited α] {le : α → α → Prop} {L : List α} {a b i j : Int} (a0 : 0 ≤ a) (hb : b ≤ L.length) (h : PartE le L a b i j) (c : i < j) (w : le (gt L j) (gt L a)) : PartE le (swapL L i j) a b (i + 1) (j - 1):=by
 have hi:=h.i0
 have hj:=h.j1
 have g : ∀ k : Int,0 ≤ k → gt (swapL L i j) k = if k = j then gt L i else if k = i then gt L j else gt L k:=fun k k0 => gt_swap L (by omega) (by omega) (by omega) (by omega) k0
 refine ⟨by omega,by omega,by omega,fun p p0 p1 => ?_⟩
 rw [g p (by omega),g a a0,if_neg (show ¬ p = j by omega),if_neg (show ¬ a = j by omega),if_neg (show ¬ a = i by omega)]
 by_cases e : p = i
 ·rw [if_pos e];exact w
 ·rw [if_neg e];exact h.low p p0 (by omega)
variable {F : Prims} {call head arith b0 c0 d0 e0 f0 g0 j0 l0 m0 n0 o0 q0 nz r0 rd wr s0 next t0 u0 v0 w0 x0 y0 z0 a1 b1 c1 d1 f1 g1 l1 lowered bump m1 n1 lt ne o1 q1 r1 yn u1 v1 x1 y1 z1 c2 : _} (hA : AP F ⟨call,head,arith,b0,c0,d0,e0,f0,g0,j0,l0,m0,n0,o0,q0,nz,r0,rd,wr,s0,next,t0,u0,v0,w0,x0,y0,z0,a1,b1,c1,d1,f1,g1,l1,lowered,bump,m1,n1,lt,ne,o1,q1,r1,yn,u1,v1,x1,y1,z1,c2⟩)
include hA
theorem eq_up {h0 : AHeap} (hlow : h0.low ≤ h0.next) {b n c : Nat} {L : List F2} {A B j s : Int} (a0 : 0 ≤ A) (bn : B ≤ n) {Q : Exit → SS → Prop}
  (hQ : ∀ h' i,s ≤ i → Dat h0 h' b n L → PartE leF L A B i j → (i ≤ j → ¬ leF (gt L i) (gt L A)) → Q (.exit 2) ⟨[(0,.slice (some ⟨b,0,none⟩) n c),(1,.int .i64 A),(4,.func (.func 34) #[] #[]),(11,.int .i64 i),(12,.int .i64 j)],33,[],h'⟩) :
  ∀ (m : Nat) (i : Int) (h : AHeap),(j + 1 - i).toNat ≤ m → s ≤ i → Dat h0 h b n L → PartE leF L A B i j →
   head 95 3 16 ⟨[(0,.slice (some ⟨b,0,none⟩) n c),(1,.int .i64 A),(4,.func (.func 34) #[] #[]),(11,.int .i64 i),(12,.int .i64 j)],16,[],h⟩ Q:=by
 intro m
 induction m with
 | zero =>
  intro i h hm hs t hp
  refine hA.roundR Try.func95 r95_ok (zc ?_)
  refine br (i ≤ j) (by rw [e_leq hA]) (fun q => by omega) (fun q => ?_) <;> refine zc ?_
  exact hQ _ i hs (t.more (ext_bump hA _ _)) hp (fun w => absurd w q)
 | succ m ih =>
  intro i h hm hs t hp
  have few:=t.few
  have p1:=hp.i0
  have p2:=hp.j1
  refine hA.roundR Try.func95 r95_ok (zc ?_)
  refine br (i ≤ j) (by rw [e_leq hA]) (fun ci => ?_) (fun q => ?_) <;> refine zc ?_
  rotate_left
  ·exact hQ _ i hs (t.more (ext_bump hA _ _)) hp (fun w => absurd w q)
  obtain ⟨h2,hh2⟩ : ∃ z,z = bump h 17:=⟨_,rfl⟩
  have x2 : Ext h h2:=by rw [hh2];exact ext_bump hA _ _
  have t2:=t.more x2
  obtain ⟨a2,b2,g2,f2,r2⟩:=t2.read (i:=A) (by omega) (by omega)
  obtain ⟨a2',b2',g2',f2',r2'⟩:=t2.read (i:=i) (by omega) (by omega)
  have q2:=rd_ok hA r2
  have q2':=rd_ok hA r2'
  rw [← hh2]
  have e1 : arith .add .i64 i 1 = i + 1:=add64 hA (by omega) (by omega)
  refine zq ?_
  refine qorder_ok hA (low_fresh hA h2) f2 f2' (fun u h2a hu x2a => ⟨_,rfl,?_⟩)
  have t2b:=dat_low hA hlow t2 x2a
  refine zc ?_
  generalize lowered h2 h2a = h2b at *
  refine br (0 ≤ u) (by rw [e_bnot hA,e_lss hA];by_cases z : u < 0 <;> simp [z] <;> omega) (fun cu => ?_) (fun cu => ?_) <;> refine zc ?_
  ·rw [hu] at cu
   rw [e1]
   exact ih (i + 1) h2b (by omega) (by omega) t2b (hp.left ci (Rat.not_lt.1 (fun w => by have:=cmpF_lt.2 w;omega)))
  ·rw [hu] at cu
   exact hQ h2b i hs t2b hp (fun _ => Rat.not_le.2 (cmpF_lt.1 (show cmpF (gt L A).q (gt L i).q < 0 by omega)))
theorem eq_down {h0 : AHeap} (hlow : h0.low ≤ h0.next) {b n c : Nat} {L : List F2} {A B i s : Int} (a0 : 0 ≤ A) (bn : B ≤ n) {Q : Exit → SS → Prop}
  (hQ : ∀ h' j,j ≤ s → Dat h0 h' b n L → PartE leF L A B i j → (i ≤ j → leF (gt L j) (gt L A)) → Q (.exit 4) ⟨[(0,.slice (some ⟨b,0,none⟩) n c),(1,.int .i64 A),(4,.func (.func 34) #[] #[]),(11,.int .i64 i),(12,.int .i64 j)],49,[],h'⟩) :
  ∀ (m : Nat) (j : Int) (h : AHeap),(j + 1 - i).toNat ≤ m → j ≤ s → Dat h0 h b n L → PartE leF L A B i j →
   head 95 5 33 ⟨[(0,.slice (some ⟨b,0,none⟩) n c),(1,.int .i64 A),(4,.func (.func 34) #[] #[]),(11,.int .i64 i),(12,.int .i64 j)],33,[],h⟩ Q:=by
 intro m
 induction m with
 | zero =>
  intro j h hm hs t hp
  refine hA.roundR Try.func95 r95_ok (zc ?_)
  refine br (i ≤ j) (by rw [e_leq hA]) (fun q => by omega) (fun q => ?_) <;> refine zc ?_
  exact hQ _ j hs (t.more (ext_bump hA _ _)) hp (fun w => absurd w q)
 | succ m ih =>
  intro j h hm hs t hp
  have few:=t.few
  have p1:=hp.i0
  have p2:=hp.j1
  refine hA.roundR Try.func95 r95_ok (zc ?_)
  refine br (i ≤ j) (by rw [e_leq hA]) (fun ci => ?_) (fun q => ?_) <;> refine zc ?_
  rotate_left
  ·exact hQ _ j hs (t.more (ext_bump hA _ _)) hp (fun w => absurd w q)
  obtain ⟨h2,hh2⟩ : ∃ z,z = bump h 16:=⟨_,rfl⟩
  have x2 : Ext h h2:=by rw [hh2];exact ext_bump hA _ _
  have t2:=t.more x2
  obtain ⟨a2,b2,g2,f2,r2⟩:=t2.read (i:=A) (by omega) (by omega)
  obtain ⟨a2',b2',g2',f2',r2'⟩:=t2.read (i:=j) (by omega) (by omega)
  have q2:=rd_ok hA r2
  have q2':=rd_ok hA r2'
  rw [← hh2]
  have e1 : arith .sub .i64 j 1 = j - 1:=sub64 hA (by omega) (by omega)
  refine zq ?_
  refine qorder_ok hA (low_fresh hA h2) f2 f2' (fun u h2a hu x2a => ⟨_,rfl,?_⟩)
  have t2b:=dat_low hA hlow t2 x2a
  refine zc ?_
  generalize lowered h2 h2a = h2b at *
  refine br (u < 0) (by rw [e_lss hA]) (fun cu => ?_) (fun cu => ?_) <;> refine zc ?_
  ·rw [e1]
   exact ih (j - 1) h2b (by omega) (by omega) t2b (hp.right ci)
  ·rw [hu] at cu
   exact hQ h2b j hs t2b hp (fun _ => Rat.not_lt.1 (fun w => cu (cmpF_lt.2 w)))
theorem eq_loop {h0 : AHeap} (hlow : h0.low ≤ h0.next) {b n c : Nat} {L0 : List F2} {A B : Int} (a0 : 0 ≤ A) (bn : B ≤ n) {v : F2} {Q : Exit → SS → Prop}
  (hQ : ∀ h' L i e,Dat h0 h' b n L → PermOn A B L0 L → A < i → i ≤ B → (∀ p : Int,A ≤ p → p < i → leF (gt L p) v) → Q (.exit 0) ⟨(11,.int .i64 i) :: e,49,[],h'⟩) :
  ∀ (m : Nat) (i j : Int) (h : AHeap) (L : List F2),(j + 1 - i).toNat ≤ m → Dat h0 h b n L → PermOn A B L0 L → PartE leF L A B i j → gt L A = v →
   head 95 1003 16 ⟨[(0,.slice (some ⟨b,0,none⟩) n c),(1,.int .i64 A),(4,.func (.func 34) #[] #[]),(11,.int .i64 i),(12,.int .i64 j)],16,[],h⟩ Q:=by
 intro m
 have fin : ∀ (h : AHeap) (L : List F2) (i j : Int),Dat h0 h b n L → PermOn A B L0 L → PartE leF L A B i j → gt L A = v → j < i → Q (.exit 0) ⟨[(11,.int .i64 i)],49,[],h⟩:=fun h L i j t hp hI hv c => by
  have k1:=hI.i0
  have k2:=hI.j1
  have k3:=hI.ij
  refine hQ h L i _ t hp k1 (by omega) (fun p p0 p1 => ?_)
  by_cases e : p = A
  ·rw [e,hv];exact leF_pre.refl _
  ·rw [← hv];exact hI.low p (by omega) p1
 induction m with
 | zero =>
  intro i j h L hm t hp hI hv
  refine hA.roundR Try.func95 r95_ok (zc ?_)
  refine eq_up hA hlow a0 bn (s:=i) (fun h1 i1 s1 t1 hI1 w1 => ?_) (j + 1 - i).toNat i h (Nat.le_refl _) (Int.le_refl _) t hI
  refine zc ?_
  refine eq_down hA hlow a0 bn (s:=j) (fun h2 j2 s2 t2 hI2 w2 => ?_) (j + 1 - i1).toNat j h1 (Nat.le_refl _) (Int.le_refl _) t1 hI1
  refine zc ?_
  refine br (j2 < i1) (by rw [e_gtr hA]) (fun _ => ?_) (fun q => by omega) <;> refine zc ?_
  exact fin h2 L i1 j2 t2 hp hI2 hv (by omega)
 | succ m ih =>
  intro i j h L hm t hp hI hv
  have few:=t.few
  refine hA.roundR Try.func95 r95_ok (zc ?_)
  refine eq_up hA hlow a0 bn (s:=i) (fun h1 i1 s1 t1 hI1 w1 => ?_) (j + 1 - i).toNat i h (Nat.le_refl _) (Int.le_refl _) t hI
  refine zc ?_
  refine eq_down hA hlow a0 bn (s:=j) (fun h2 j2 s2 t2 hI2 w2 => ?_) (j + 1 - i1).toNat j h1 (Nat.le_refl _) (Int.le_refl _) t1 hI1
  refine zc ?_
  refine br (j2 < i1) (by rw [e_gtr hA]) (fun q => ?_) (fun ci => ?_) <;> refine zc ?_
  ·exact fin h2 L i1 j2 t2 hp hI2 hv q
  have k1:=hI2.i0
  have k2:=hI2.j1
  have v2:=w2 (by omega)
  have v3:=w1 (by omega)
  have ne : i1 ≠ j2:=fun e => v3 (by rw [e];exact v2)
  have e1 : arith .add .i64 i1 1 = i1 + 1:=add64 hA (by omega) (by omega)
  have e2 : arith .sub .i64 j2 1 = j2 - 1:=sub64 hA (by omega) (by omega)
  obtain ⟨i2,hi2⟩ : ∃ z,z = i1 + 1:=⟨_,rfl⟩
  obtain ⟨j3,hj3⟩ : ∃ z,z = j2 - 1:=⟨_,rfl⟩
  rw [← hi2] at e1
  rw [← hj3] at e2
  obtain ⟨h5,hh5⟩ : ∃ z,z = bump h2 16:=⟨_,rfl⟩
  have x5 : Ext h2 h5:=by rw [hh5];exact ext_bump hA _ _
  have t5:=t2.more x5
  obtain ⟨a5,b5,g5,f5,r5⟩:=t5.read (i:=i1) (by omega) (by omega)
  obtain ⟨a5',b5',g5',f5',r5'⟩:=t5.read (i:=j2) (by omega) (by omega)
  have q5:=rd_ok hA r5
  have q5':=rd_ok hA r5'
  rw [← hh5]
  obtain ⟨h5c,h5d,p5,p5',t5d⟩:=dat_swap hA t5 (i:=i1) (j:=j2) (by omega) (by omega) (by omega) (by omega) g5 g5'
  (refine zq ?_;repeat ((first | rw [e1] | rw [e2]);refine zq ?_))
  refine ih i2 j3 h5d _ (by omega) t5d (hp.trans (PermOn.swap L a0 (by have:=t.len;omega) (by omega) (by omega) (by omega) (by omega))) ?_ ?_
  ·rw [hi2,hj3]
   exact hI2.swap a0 (by have:=t.len;omega) (by omega) v2
  ·rw [gt_swap L (by omega) (by have:=t.len;omega) (by omega) (by have:=t.len;omega) a0,if_neg (by omega),if_neg (by omega),hv]
theorem equal_ok {h0 h : AHeap} (hlow : h0.low ≤ h0.next) {b n c : Nat} {L : List F2} {A B p : Int} (a0 : 0 ≤ A) (bn : B ≤ n) (pa : A ≤ p) (pb : p < B) (t : Dat h0 h b n L) {Q : Value → AHeap → Prop}
  (hQ : ∀ h' L' m,Dat h0 h' b n L' → PermOn A B L L' → A < m → m ≤ B → (∀ k : Int,A ≤ k → k < m → leF (gt L' k) (gt L p)) → Q (.int .i64 m) h') :
  call 95 [.slice (some ⟨b,0,none⟩) n c,.int .i64 A,.int .i64 B,.int .i64 p,.func (.func 34) #[] #[]] h Q:=by
 have hlow':=hlow
 replace hlow:=t.ext.lowOK hlow
 have few:=t.few
 have e1 : arith .add .i64 A 1 = A + 1:=add64 hA (by omega) (by omega)
 have e2 : arith .sub .i64 B 1 = B - 1:=sub64 hA (by omega) (by omega)
 obtain ⟨A1,hA1⟩ : ∃ z,z = A + 1:=⟨_,rfl⟩
 obtain ⟨B1,hB1⟩ : ∃ z,z = B - 1:=⟨_,rfl⟩
 rw [← hA1] at e1
 rw [← hB1] at e2
 refine hA.bodyR Try.func95 r95_ok (hA.alike _ _ _ rfl) hlow (zc ?_)
 obtain ⟨h2,hh2⟩ : ∃ z,z = bump h 16:=⟨_,rfl⟩
 have x2 : Ext h h2:=by rw [hh2];exact ext_bump hA _ _
 have t2:=t.more x2
 obtain ⟨a2,b2,g2,f2,r2⟩:=t2.read (i:=A) (by omega) (by omega)
 obtain ⟨a2',b2',g2',f2',r2'⟩:=t2.read (i:=p) (by omega) (by omega)
 have q2:=rd_ok hA r2
 have q2':=rd_ok hA r2'
 rw [← hh2]
 obtain ⟨h2c,h2d,p2,p2',t2d⟩:=dat_swap hA t2 (i:=A) (j:=p) (by omega) (by omega) (by omega) (by omega) g2 g2'
 (refine zq ?_;repeat ((first | rw [e1] | rw [e2]);refine zq ?_))
 have s2:=PermOn.swap (a:=A) (b:=B) L (i:=A) (j:=p) a0 (by have:=t.len;omega) (by omega) (by omega) pa pb
 have hv : gt (swapL L A p) A = gt L p:=by
  rw [gt_swap L a0 (by have:=t.len;omega) (by omega) (by have:=t.len;omega) a0]
  by_cases e : A = p
  ·rw [if_pos e,e]
  ·rw [if_neg e,if_pos rfl]
 refine eq_loop hA hlow' (L0:=L) a0 bn (v:=gt L p) (fun h' L' i e t' hp i0 i1 hl => ?_) (B1 + 1 - A1).toNat A1 B1 h2d _ (Nat.le_refl _) t2d s2 ⟨by omega,by omega,by omega,fun p p0 p1 => by omega⟩ hv
 refine zc ?_
 exact hQ h' L' i t' hp i0 i1 hl
