import Derived.Test.YtnokkniofajnhaaQuPe
set_option linter.unusedSimpArgs false
set_option linter.unusedVariables false
namespace Go.Proofs.Ytnokkniofajnhaa
open Go.Sim
set_option maxRecDepth 100000
structure Cnt (h0 h : AHeap) (b sb : Nat) (v : Value) : Prop where
 own : Own h sb 1 [v]
 lt : sb < h.next
 old : h0.next ≤ sb
 ne : sb ≠ b
theorem Cnt.more {h0 h h' : AHeap} {b sb : Nat} {v : Value} (t : Cnt h0 h b sb v) (e : Ext h h') : Cnt h0 h' b sb v:=⟨t.own.ext e t.lt,Nat.lt_of_lt_of_le t.lt e.next,t.old,t.ne⟩
theorem Cnt.put {h0 h : AHeap} {b sb n : Nat} {v : Value} {L : List F2} (t : Cnt h0 h b sb v) (d : Dat h0 h b n L) (w : Value) : ∃ h',h.write sb 0 [w] = some h' ∧ Cnt h0 h' b sb w ∧ Dat h0 h' b n L:=by
 obtain ⟨h',w1,w2,w3⟩:=t.own.write (o:=0) (vs:=[w]) (by simp)
 exact ⟨h',w1,⟨w2,by rw [w3.next];exact t.lt,t.old,t.ne⟩,⟨w3.ext d.ext t.old,w3.own d.own (Ne.symm t.ne),d.old,by rw [w3.next];exact d.lt,d.len,d.ok,d.few⟩⟩
variable {F : Prims} {call head arith b0 c0 d0 e0 f0 g0 l0 m0 n0 o0 p0 q0 nz r0 rd wr push next s0 t0 u0 v0 w0 x0 y0 z0 c1 d1 f1 g1 l1 fresh lowered bump m1 p1 lt ne r1 u1 v1 yn y1 z1 c2 d2 j2 k2 : _} (hA : AP F ⟨call,head,arith,b0,c0,d0,e0,f0,g0,l0,m0,n0,o0,p0,q0,nz,r0,rd,wr,push,next,s0,t0,u0,v0,w0,x0,y0,z0,c1,d1,f1,g1,l1,fresh,lowered,bump,m1,p1,lt,ne,r1,u1,v1,yn,y1,z1,c2,d2,j2,k2⟩)
include hA
theorem cnt_low {h0 h h' : AHeap} (hl : h.low ≤ h.next) {b sb : Nat} {v : Value} (t : Cnt h0 h b sb v) (x : Ext (fresh h) h') : Cnt h0 (lowered h h') b sb v:=t.more (ext_low hA hl (.refl h) x)
theorem order2_ok {h0 h : AHeap} (hlow : h0.low ≤ h0.next) {b n c sb : Nat} {L : List F2} {i j w : Int} (i0 : 0 ≤ i) (i1 : i < n) (j0 : 0 ≤ j) (j1 : j < n) (t : Dat h0 h b n L) (s : Cnt h0 h b sb (.int .i64 w)) {Q : Value → AHeap → Prop}
  (hQ : ∀ h' r q w',Dat h0 h' b n L → Cnt h0 h' b sb (.int .i64 w') → ((r = i ∧ q = j) ∨ (r = j ∧ q = i)) → Q (.tuple #[.int .i64 r,.int .i64 q]) h') : call 105 [.slice (some ⟨b,0,none⟩) n c,.int .i64 i,.int .i64 j,.pointer (some ⟨sb,0,none⟩),.func (.func 34) #[] #[]] h Q:=by
 have hlow':=hlow
 replace hlow:=t.ext.lowOK hlow
 have few:=t.few
 refine hA.bodyR Try.func105 r105_ok (hA.alike _ _ _ rfl) hlow (zc ?_)
 obtain ⟨h2,hh2⟩ : ∃ z,z = bump h 11:=⟨_,rfl⟩
 have x2 : Ext h h2:=by rw [hh2];exact ext_bump hA _ _
 have t2:=t.more x2
 obtain ⟨a2,b2,g2,f2,r2⟩:=t2.read (i:=j) (by omega) (by omega)
 obtain ⟨a2',b2',g2',f2',r2'⟩:=t2.read (i:=i) (by omega) (by omega)
 have q2:=rd_ok hA r2
 have q2':=rd_ok hA r2'
 rw [← hh2]
 have s2:=s.more x2
 have l2:=t2.ext.lowOK hlow'
 have hlow:=hlow'
 refine zq ?_
 refine qorder_ok hA (low_fresh hA h2) f2 f2' (fun u h2a hu x2a => ⟨_,rfl,?_⟩)
 have t2b:=dat_low hA hlow t2 x2a
 refine zc ?_
 have s2b:=cnt_low hA l2 s2 x2a
 generalize lowered h2 h2a = h2b at *
 refine br (u < 0) (by rw [e_lss hA]) (fun cu => ?_) (fun cu => ?_) <;> refine zc ?_
 rotate_left
 ·exact hQ h2b i j w t2b s2b (.inl ⟨rfl,rfl⟩)
 have r5 : rd h2b sb 0 1 [.int .i64 w]:=rd_at hA (s2b.own.readG (o:=0) (n:=1) (by simp))
 obtain ⟨h6,p6,s6,t6⟩:=s2b.put t2b (.int .i64 (arith .add .i64 w 1))
 have p7 : wr h2b sb 0 [.int .i64 (arith .add .i64 w 1)] h6:=wr_at hA p6
 refine zq ?_
 exact hQ h6 j i _ t6 s6 (.inr ⟨rfl,rfl⟩)
theorem median_ok {h0 h : AHeap} (hlow : h0.low ≤ h0.next) {b n c sb : Nat} {L : List F2} {i j k w : Int} (i0 : 0 ≤ i) (i1 : i < n) (j0 : 0 ≤ j) (j1 : j < n) (k0 : 0 ≤ k) (k1 : k < n) (t : Dat h0 h b n L) (s : Cnt h0 h b sb (.int .i64 w)) {Q : Value → AHeap → Prop}
  (hQ : ∀ h' r w',Dat h0 h' b n L → Cnt h0 h' b sb (.int .i64 w') → (r = i ∨ r = j ∨ r = k) → Q (.int .i64 r) h') : call 104 [.slice (some ⟨b,0,none⟩) n c,.int .i64 i,.int .i64 j,.int .i64 k,.pointer (some ⟨sb,0,none⟩),.func (.func 34) #[] #[]] h Q:=by
 have hlow':=hlow
 replace hlow:=t.ext.lowOK hlow
 refine hA.bodyR Try.func104 r104_ok (hA.alike _ _ _ rfl) hlow (zc ?_)
 refine order2_ok hA hlow' i0 i1 j0 j1 t s (fun h1 a1 b1 w1 t1 s1 q1 => ⟨_,_,rfl,?_⟩)
 refine zc ?_
 refine order2_ok hA hlow' (i:=b1) (j:=k) (by omega) (by omega) k0 k1 t1 s1 (fun h2 a2 b2 w2 t2 s2 q2 => ⟨_,_,rfl,?_⟩)
 refine zc ?_
 refine order2_ok hA hlow' (i:=a1) (j:=a2) (by omega) (by omega) (by omega) (by omega) t2 s2 (fun h3 a3 b3 w3 t3 s3 q3 => ⟨_,_,rfl,?_⟩)
 refine zc ?_
 exact hQ h3 b3 w3 t3 s3 (by omega)
theorem adjacent_ok {h0 h : AHeap} (hlow : h0.low ≤ h0.next) {b n c sb : Nat} {L : List F2} {i w : Int} (i0 : 0 < i) (i1 : i + 1 < n) (t : Dat h0 h b n L) (s : Cnt h0 h b sb (.int .i64 w)) {Q : Value → AHeap → Prop}
  (hQ : ∀ h' r w',Dat h0 h' b n L → Cnt h0 h' b sb (.int .i64 w') → (i - 1 ≤ r ∧ r ≤ i + 1) → Q (.int .i64 r) h') : call 103 [.slice (some ⟨b,0,none⟩) n c,.int .i64 i,.pointer (some ⟨sb,0,none⟩),.func (.func 34) #[] #[]] h Q:=by
 have hlow':=hlow
 replace hlow:=t.ext.lowOK hlow
 have few:=t.few
 refine hA.bodyR Try.func103 r103_ok (hA.alike _ _ _ rfl) hlow (zc ?_)
 rw [sub64 hA (by omega) (by omega),add64 hA (by omega) (by omega)]
 refine median_ok hA hlow' (by omega) (by omega) (by omega) (by omega) (by omega) (by omega) t s (fun h1 r w1 t1 s1 q1 => ⟨_,rfl,?_⟩)
 refine zc ?_
 exact hQ h1 r w1 t1 s1 (by omega)
theorem pivot_ok {h0 h : AHeap} (hlow : h0.low ≤ h0.next) {b n c : Nat} {L : List F2} {A B : Int} (a0 : 0 ≤ A) (ab : A + 12 < B) (bn : B ≤ n) (t : Dat h0 h b n L) {Q : Value → AHeap → Prop}
  (hQ : ∀ h' p k,Dat h0 h' b n L → A ≤ p → p < B → Q (.tuple #[.int .i64 p,.int .i64 k]) h') : call 92 [.slice (some ⟨b,0,none⟩) n c,.int .i64 A,.int .i64 B,.func (.func 34) #[] #[]] h Q:=by
 have hlow':=hlow
 replace hlow:=t.ext.lowOK hlow
 have few:=t.few
 obtain ⟨l,hl⟩ : ∃ z,z = B - A:=⟨_,rfl⟩
 have e1 : arith .sub .i64 B A = l:=by rw [hl];exact sub64 hA (by omega) (by omega)
 have e2 : arith .quo .i64 l 4 = l / 4:=quo64 hA (by omega) (by omega) (by omega)
 obtain ⟨q,hq⟩ : ∃ z,z = l / 4:=⟨_,rfl⟩
 rw [← hq] at e2
 have e3 : arith .mul .i64 q 1 = q:=by rw [mul64 hA (by omega) (by omega)];omega
 obtain ⟨q2,hq2⟩ : ∃ z,z = q * 2:=⟨_,rfl⟩
 have e4 : arith .mul .i64 q 2 = q2:=by rw [hq2];exact mul64 hA (by omega) (by omega)
 obtain ⟨q3,hq3⟩ : ∃ z,z = q * 3:=⟨_,rfl⟩
 have e5 : arith .mul .i64 q 3 = q3:=by rw [hq3];exact mul64 hA (by omega) (by omega)
 obtain ⟨i,hi⟩ : ∃ z,z = A + q:=⟨_,rfl⟩
 have e6 : arith .add .i64 A q = i:=by rw [hi];exact add64 hA (by omega) (by omega)
 obtain ⟨j,hj⟩ : ∃ z,z = A + q2:=⟨_,rfl⟩
 have e7 : arith .add .i64 A q2 = j:=by rw [hj];exact add64 hA (by omega) (by omega)
 obtain ⟨k,hk⟩ : ∃ z,z = A + q3:=⟨_,rfl⟩
 have e8 : arith .add .i64 A q3 = k:=by rw [hk];exact add64 hA (by omega) (by omega)
 refine hA.bodyR Try.func92 r92_ok (hA.alike _ _ _ rfl) hlow (zc ?_)
 rw [e_next hA,e_push hA]
 have x1 : Ext h (h.push 1 [Value.int .i64 0]):=.push _ _ _
 have o1:=Own.push h 1 [Value.int .i64 0]
 have n1 : (h.push 1 [Value.int .i64 0]).next = h.next + 1:=rfl
 generalize h.push 1 [Value.int .i64 0] = h1 at *
 obtain ⟨sb,hsb⟩ : ∃ z,z = h.next:=⟨_,rfl⟩
 rw [← hsb] at o1 ⊢
 have t1:=t.more x1
 have s1 : Cnt h0 h1 b sb (.int .i64 0):=⟨o1,by omega,by have:=t.ext.next;omega,by have:=t.lt;omega⟩
 (refine zq ?_;repeat ((first | rw [e1] | rw [e2] | rw [e3] | rw [e6] | rw [e4] | rw [e7] | rw [e5] | rw [e8]);refine zq ?_))
 refine br (8 ≤ l) (by rw [e_geq hA]) (fun _ => ?_) (fun z => by omega) <;> refine zc ?_
 have tail : ∀ (h5 : AHeap) (r w5 : Int),Dat h0 h5 b n L → Cnt h0 h5 b sb (.int .i64 w5) → A ≤ r → r < B → rd h5 sb 0 1 [.int .i64 w5]:=fun h5 r w5 t5 s5 _ _ => rd_at hA (s5.own.readG (o:=0) (n:=1) (by simp))
 refine br (50 ≤ l) (by rw [e_geq hA]) (fun c50 => ?_) (fun c50 => ?_) <;> refine zc ?_
 ·refine adjacent_ok hA hlow' (i:=i) (by omega) (by omega) t1 s1 (fun h2 i2 w2 t2 s2 m2 => ⟨_,rfl,?_⟩)
  refine zc ?_
  refine adjacent_ok hA hlow' (i:=j) (by omega) (by omega) t2 s2 (fun h3 j3 w3 t3 s3 m3 => ⟨_,rfl,?_⟩)
  refine zc ?_
  refine adjacent_ok hA hlow' (i:=k) (by omega) (by omega) t3 s3 (fun h4 k4 w4 t4 s4 m4 => ⟨_,rfl,?_⟩)
  refine zc ?_
  refine median_ok hA hlow' (i:=i2) (j:=j3) (k:=k4) (by omega) (by omega) (by omega) (by omega) (by omega) (by omega) t4 s4 (fun h5 r w5 t5 s5 m5 => ⟨_,rfl,?_⟩)
  have r5:=tail h5 r w5 t5 s5 (by omega) (by omega)
  refine zq ?_
  refine br (w5 = 0) (by rw [e_eql hA]) (fun _ => ?_) (fun _ => ?_) <;> refine zc ?_
  ·exact hQ h5 r _ t5 (by omega) (by omega)
  refine br (w5 = 12) (by rw [e_eql hA]) (fun _ => ?_) (fun _ => ?_) <;> refine zc ?_
  ·exact hQ h5 r _ t5 (by omega) (by omega)
  ·exact hQ h5 r _ t5 (by omega) (by omega)
 ·refine median_ok hA hlow' (i:=i) (j:=j) (k:=k) (by omega) (by omega) (by omega) (by omega) (by omega) (by omega) t1 s1 (fun h5 r w5 t5 s5 m5 => ⟨_,rfl,?_⟩)
  have r5:=tail h5 r w5 t5 s5 (by omega) (by omega)
  refine zq ?_
  refine br (w5 = 0) (by rw [e_eql hA]) (fun _ => ?_) (fun _ => ?_) <;> refine zc ?_
  ·exact hQ h5 r _ t5 (by omega) (by omega)
  refine br (w5 = 12) (by rw [e_eql hA]) (fun _ => ?_) (fun _ => ?_) <;> refine zc ?_
  ·exact hQ h5 r _ t5 (by omega) (by omega)
  ·exact hQ h5 r _ t5 (by omega) (by omega)
theorem rev_loop {h0 : AHeap} (hlow : h0.low ≤ h0.next) {b n c : Nat} {L0 : List F2} {A B : Int} (a0 : 0 ≤ A) (bn : B ≤ n) {Q : Exit → SS → Prop}
  (hQ : ∀ h' L e kn,Dat h0 h' b n L → PermOn A B L0 L → Q (.exit 0) ⟨e,kn,[],h'⟩) :
  ∀ (m : Nat) (i j : Int) (h : AHeap) (L : List F2),(j - i).toNat ≤ m → A ≤ i → j < B → Dat h0 h b n L → PermOn A B L0 L →
   head 93 2 0 ⟨[(0,.slice (some ⟨b,0,none⟩) n c),(8,.int .i64 i),(9,.int .i64 j)],0,[],h⟩ Q:=by
 intro m
 induction m with
 | zero =>
  intro i j h L hm i0 j1 t hp
  refine hA.roundR Try.func93 r93_ok (zc ?_)
  refine br (i < j) (by rw [e_lss hA]) (fun q => by omega) (fun _ => ?_) <;> refine zc ?_
  exact hQ h L _ _ t hp
 | succ m ih =>
  intro i j h L hm i0 j1 t hp
  have few:=t.few
  refine hA.roundR Try.func93 r93_ok (zc ?_)
  refine br (i < j) (by rw [e_lss hA]) (fun ci => ?_) (fun _ => ?_) <;> refine zc ?_
  rotate_left
  ·exact hQ h L _ _ t hp
  have e1 : arith .add .i64 i 1 = i + 1:=add64 hA (by omega) (by omega)
  have e2 : arith .sub .i64 j 1 = j - 1:=sub64 hA (by omega) (by omega)
  obtain ⟨i2,hi2⟩ : ∃ z,z = i + 1:=⟨_,rfl⟩
  obtain ⟨j3,hj3⟩ : ∃ z,z = j - 1:=⟨_,rfl⟩
  rw [← hi2] at e1
  rw [← hj3] at e2
  obtain ⟨h5,hh5⟩ : ∃ z,z = bump h 16:=⟨_,rfl⟩
  have x5 : Ext h h5:=by rw [hh5];exact ext_bump hA _ _
  have t5:=t.more x5
  obtain ⟨a5,b5,g5,f5,r5⟩:=t5.read (i:=i) (by omega) (by omega)
  obtain ⟨a5',b5',g5',f5',r5'⟩:=t5.read (i:=j) (by omega) (by omega)
  have q5:=rd_ok hA r5
  have q5':=rd_ok hA r5'
  rw [← hh5]
  obtain ⟨h5c,h5d,p5,p5',t5d⟩:=dat_swap hA t5 (i:=i) (j:=j) (by omega) (by omega) (by omega) (by omega) g5 g5'
  (refine zq ?_;repeat ((first | rw [e1] | rw [e2]);refine zq ?_))
  exact ih i2 j3 h5d _ (by omega) (by omega) (by omega) t5d (hp.trans (PermOn.swap L a0 (by have:=t.len;omega) (by omega) (by omega) (by omega) (by omega)))
theorem rev_ok {h0 h : AHeap} (hlow : h0.low ≤ h0.next) {b n c : Nat} {L : List F2} {A B : Int} (a0 : 0 ≤ A) (ab : A ≤ B) (bn : B ≤ n) (t : Dat h0 h b n L) {Q : Value → AHeap → Prop}
  (hQ : ∀ h' L',Dat h0 h' b n L' → PermOn A B L L' → Q (.tuple #[]) h') : call 93 [.slice (some ⟨b,0,none⟩) n c,.int .i64 A,.int .i64 B,.func (.func 34) #[] #[]] h Q:=by
 have hlow':=hlow
 replace hlow:=t.ext.lowOK hlow
 have few:=t.few
 refine hA.bodyR Try.func93 r93_ok (hA.alike _ _ _ rfl) hlow (zc ?_)
 rw [sub64 hA (by omega) (by omega)]
 refine rev_loop hA hlow' (L0:=L) a0 bn (fun h' L' e kn t' hp => ?_) (B - 1 - A).toNat A (B - 1) h L (Nat.le_refl _) (by omega) (by omega) t (.refl _ _ _)
 refine zc ?_
 exact hQ h' L' t' hp
