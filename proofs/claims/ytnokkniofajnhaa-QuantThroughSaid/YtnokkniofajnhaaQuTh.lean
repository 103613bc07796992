import Derived.Test.YtnokkniofajnhaaQuCm
set_option linter.unusedSimpArgs false
set_option linter.unusedVariables false
namespace Go.Proofs.Ytnokkniofajnhaa
open Go.Sim
set_option linter.unusedVariables false
set_option maxRecDepth 100000
theorem Corr.seg {t : List Kn} (c : Corr t) {p : Rat} (h0 : kx t 0 ≤ p) (h1 : p < kx t (t.length - 1)) : ∃ j : Int,1 ≤ j ∧ j < t.length ∧ kx t (j - 1) ≤ p ∧ p < kx t j:=by
 have two:=c.two
 have key : ∀ m : Nat,(m : Int) < t.length → p < kx t m → ∃ j : Int,1 ≤ j ∧ j < t.length ∧ kx t (j - 1) ≤ p ∧ p < kx t j:=by
  intro m
  induction m with
  | zero => intro _ h;exact absurd h0 (Rat.not_le.2 h)
  | succ m ih =>
   intro hm h
   by_cases q : kx t m ≤ p
   ·exact ⟨m + 1,by omega,by omega,by rw [show (m : Int) + 1 - 1 = m by omega];exact q,by have:=h;push_cast at this;exact this⟩
   ·exact ih (by omega) (Rat.not_le.1 q)
 exact key (t.length - 1) (by omega) (by rw [show ((t.length - 1 : Nat) : Int) = t.length - 1 by omega];exact h1)
theorem Corr.same {t : List Kn} (c : Corr t) {p q : Rat} (h0 : kx t 0 ≤ p) (pq : p < q) (h1 : q ≤ kx t (t.length - 1)) (no : ∀ j : Int,0 ≤ j → j < t.length → ¬ (p < kx t j ∧ kx t j < q)) :
  ∃ j : Int,1 ≤ j ∧ j < t.length ∧ ∀ x v : Rat,p ≤ x → x ≤ q → ValQ t x v → v = lineQ t j x:=by
 obtain ⟨j,j0,j1,a,b⟩:=c.seg h0 (by grind)
 refine ⟨j,j0,j1,fun x v hx1 hx2 hv => ?_⟩
 have hq : q ≤ kx t j:=Rat.not_lt.1 (fun w => no j (by omega) j1 ⟨b,w⟩)
 exact hv.uniq c ⟨j,j0,j1,by grind,by grind,rfl⟩
theorem line_diff (t : List Kn) (i : Int) : ∃ S : Rat,∀ z y : Rat,lineQ t i z - lineQ t i y = S * (z - y):=by
 refine ⟨(ky t i - ky t (i - 1)) / (kx t i - kx t (i - 1)),fun z y => ?_⟩
 unfold lineQ
 rw [Rat.div_def,Rat.div_def,Rat.div_def]
 grind
theorem on_line {X0 X1 x Y0 Y1 w s1 s2 D V : Rat} (h : X1 - X0 ≠ 0) (h1 : X1 - X0 = s1 * D) (h2 : x - X0 = s1 * V) (h3 : Y1 - Y0 = s2 * D) (h4 : w - Y0 = s2 * V) : w = Y0 + (Y1 - Y0) * (x - X0) / (X1 - X0):=by
 have e : (w - Y0) * (X1 - X0) = (Y1 - Y0) * (x - X0):=by rw [h1,h2,h3,h4];grind
 rw [← e,Rat.div_def,Rat.mul_assoc,Rat.mul_inv_cancel _ h]
 grind
theorem StrictOn.mid {W : List F2} {n : Int} (h : StrictOn W 0 n) {i p : Int} (i0 : 1 ≤ i) (i1 : i < n) (p0 : 0 ≤ p) (p1 : p < n) : ¬ ((gt W (i - 1)).q < (gt W p).q ∧ (gt W p).q < (gt W i).q):=by
 rintro ⟨a,b⟩
 by_cases c : p < i
 ·by_cases d : p = i - 1
  ·rw [d] at a;grind
  ·have:=h p (i - 1) p0 (by omega) (by omega);grind
 ·by_cases d : p = i
  ·rw [d] at b;grind
  ·have:=h i p (by omega) (by omega) p1;grind
theorem StrictOn.find {W : List F2} {v : Rat} : ∀ m : Nat,(gt W 0).q ≤ v → 0 < m → v ≤ (gt W m).q → ∃ i : Int,1 ≤ i ∧ i ≤ m ∧ (gt W (i - 1)).q ≤ v ∧ v ≤ (gt W i).q:=by
 intro m
 induction m with
 | zero => intro _ h;omega
 | succ m ih =>
  intro h0 _ h1
  by_cases c : v ≤ (gt W m).q
  ·by_cases z : m = 0
   ·subst z
    exact ⟨1,by omega,by omega,by simpa using h0,by simpa using h1⟩
   ·obtain ⟨i,a,b,d⟩:=ih h0 (by omega) c
    exact ⟨i,a,by omega,d⟩
  ·refine ⟨m + 1,by omega,by omega,?_,by have:=h1;push_cast at this;exact this⟩
   rw [show (m : Int) + 1 - 1 = m by omega]
   exact Rat.le_of_lt (Rat.not_le.1 c)
theorem toK_at' {l : List Kr} {i : Int} (h0 : 0 ≤ i) (h1 : i < l.length) : kx (toK l) i = (gt l i).xF.q ∧ ky (toK l) i = (gt l i).yF.q:=toK_at h0 h1
structure Mids (l m : List Kr) (W : List F2) : Prop where
 g1 : GoodL l
 g2 : GoodL m
 w : Within l m
 mid : MidIs l m W
theorem Mids.y {l m : List Kr} {W : List F2} (h : Mids l m W) {j : Int} (j0 : 0 ≤ j) (j1 : j < l.length) : ∃ p : Int,0 ≤ p ∧ p < W.length ∧ gt W p = (gt l j).yF:=by
 have : (gt l j).yF ∈ W:=(h.mid.2 _).2 (List.mem_append_left _ (List.mem_map.2 ⟨_,gt_mem l j0 j1,rfl⟩))
 exact mem_gt this
theorem Mids.x {l m : List Kr} {W : List F2} (h : Mids l m W) {j : Int} (j0 : 0 ≤ j) (j1 : j < m.length) (r0 : ky (toK l) 0 ≤ kx (toK m) j) (r1 : kx (toK m) j ≤ ky (toK l) (l.length - 1)) : ∃ p : Int,0 ≤ p ∧ p < W.length ∧ gt W p = (gt m j).xF:=by
 have two:=h.g1.two
 have : (gt m j).xF ∈ W:=by
  refine (h.mid.2 _).2 (List.mem_append_right _ (List.mem_map.2 ⟨_,List.mem_filter.2 ⟨gt_mem m j0 j1,?_⟩,rfl⟩))
  unfold inRange
  rw [decide_eq_true_iff,← (toK_at' (by omega) (by omega)).2,← (toK_at' (by omega) (by omega)).2,← (toK_at' j0 j1).1]
  exact ⟨r0,r1⟩
 exact mem_gt this
theorem Mids.f {l m : List Kr} {W : List F2} (h : Mids l m W) {i : Int} (i0 : 0 ≤ i) (i1 : i < W.length) : MidF l m (gt W i):=midF h.g1 h.g2 ((h.mid.2 _).1 (gt_mem W i0 i1))
theorem Mids.two {l m : List Kr} {W : List F2} (h : Mids l m W) : 2 ≤ W.length ∧ (gt W 0).q = ky (toK l) 0 ∧ (gt W (W.length - 1)).q = ky (toK l) (l.length - 1):=by
 have two:=h.g1.two
 have hs:=h.mid.1
 obtain ⟨p,p0,p1,ep⟩:=h.y (j:=0) (by omega) (by omega)
 obtain ⟨q,q0,q1,eq⟩:=h.y (j:=l.length - 1) (by omega) (by omega)
 have lt:=(h.g1.corr.mono (i:=0) (j:=l.length - 1) (by omega) (by omega) (by rw [toK_len];omega)).2
 have e0:=(toK_at' (l:=l) (i:=0) (by omega) (by omega)).2
 have e1:=(toK_at' (l:=l) (i:=l.length - 1) (by omega) (by omega)).2
 rw [← ep] at e0
 rw [← eq] at e1
 have f0:=h.f (i:=0) (by omega) (by omega)
 have f1:=h.f (i:=W.length - 1) (by omega) (by omega)
 have pz : p = 0:=by
  by_cases z : p = 0
  ·exact z
  ·have:=hs 0 p (by omega) (by omega) p1
   have:=f0.d0
   grind
 have qz : q = W.length - 1:=by
  by_cases z : q = W.length - 1
  ·exact z
  ·have:=hs q (W.length - 1) q0 (by omega) (by omega)
   have:=f1.d1
   grind
 subst pz
 refine ⟨?_,e0.symm,?_⟩
 ·by_cases z : q = 0
  ·rw [z] at e1;grind
  ·omega
 ·rw [← qz];exact e1.symm
structure Comp (l m : List Kr) (W : List F2) (c : List Kr) : Prop where
 mids : Mids l m W
 len : c.length = W.length
 most : W.length ≤ 40
 at_ : ∀ i : Int,0 ≤ i → i < W.length → KnotAt l m (gt W i).q (gt c i) ∧ smallK (gt c i)
theorem Comp.k {l m c : List Kr} {W : List F2} (h : Comp l m W c) {i : Int} (i0 : 0 ≤ i) (i1 : i < W.length) : ValQ (turnK (toK l)) (gt W i).q (kx (toK c) i) ∧ ValQ (toK m) (gt W i).q (ky (toK c) i):=by
 obtain ⟨x,y,a,b,e,f⟩:=(h.at_ i i0 i1).1
 obtain ⟨e1,e2⟩:=toK_at (l:=c) i0 (by have:=h.len;omega)
 rw [e1,e2,e.rq,f.rq]
 exact ⟨a,b⟩
theorem Comp.good {l m c : List Kr} {W : List F2} (h : Comp l m W c) : GoodL c:=by
 have hl:=h.len
 refine ⟨by have:=h.mids.two.1;omega,by have:=h.most;omega,fun i i0 i1 => (h.at_ i i0 (by omega)).2,fun i i0 i1 => ?_⟩
 obtain ⟨a,b⟩:=h.k (i:=i - 1) (by omega) (by omega)
 obtain ⟨a',b'⟩:=h.k (i:=i) (by omega) (by omega)
 have lt:=h.mids.mid.1 (i - 1) i (by omega) (by omega) (by omega)
 exact ⟨a.lt h.mids.g1.corr.turn a' lt,b.lt h.mids.g2.corr b' lt⟩
theorem Comp.val {l m c : List Kr} {W : List F2} (h : Comp l m W c) {x v w : Rat} (hv : ValQ (toK l) x v) (hw : ValQ (toK m) v w) : ValQ (toK c) x w:=by
 have c1:=h.mids.g1.corr
 have c2:=h.mids.g2.corr
 have c1':=c1.turn
 have hb:=hv.back c1
 have two1:=h.mids.g1.two
 have two2:=h.mids.g2.two
 obtain ⟨two,z0,z1⟩:=h.mids.two
 have hl:=h.len
 obtain ⟨d0,d1⟩:=hb.dom c1'
 rw [turn_len,toK_len,(turn_x (by omega) (by rw [toK_len];omega)).1] at d1
 rw [(turn_x (by omega) (by rw [toK_len];omega)).1] at d0
 obtain ⟨i,i0,i1,r0,r1⟩:=StrictOn.find (W:=W) (v:=v) (W.length - 1) (by rw [z0];exact d0) (by omega) (by rw [show ((W.length - 1 : Nat) : Int) = W.length - 1 by omega,z1];exact d1)
 have i2 : i < W.length:=by omega
 have st:=h.mids.mid.1
 have lt:=st (i - 1) i (by omega) (by omega) i2
 have fa:=h.mids.f (i:=i - 1) (by omega) (by omega)
 have fb:=h.mids.f (i:=i) (by omega) (by omega)
 obtain ⟨ka,kb⟩:=h.k (i:=i - 1) (by omega) (by omega)
 obtain ⟨ka',kb'⟩:=h.k (i:=i) (by omega) (by omega)
 obtain ⟨j,j0,j1,line1⟩:=c1'.same (p:=(gt W (i - 1)).q) (q:=(gt W i).q) (by rw [(turn_x (by omega) (by rw [toK_len];omega)).1];exact fa.d0) lt (by rw [turn_len,toK_len,(turn_x (by omega) (by rw [toK_len];omega)).1];exact fb.d1) (fun j j0 j1 => by
  rw [turn_len,toK_len] at j1
  obtain ⟨p,p0,p1,e⟩:=h.mids.y j0 j1
  rw [(turn_x j0 (by rw [toK_len];exact j1)).1,(toK_at' j0 j1).2,← e]
  exact st.mid i0 i2 p0 p1)
 obtain ⟨j',j0',j1',line2⟩:=c2.same (p:=(gt W (i - 1)).q) (q:=(gt W i).q) (Rat.le_trans h.mids.w.1 fa.d0) lt (by rw [toK_len];exact Rat.le_trans fb.d1 h.mids.w.2) (fun j j0 j1 => by
  rw [toK_len] at j1
  rintro ⟨n1,n2⟩
  obtain ⟨p,p0,p1,e⟩:=h.mids.x j0 j1 (by have:=fa.d0;grind) (by have:=fb.d1;grind)
  rw [(toK_at' j0 j1).1,← e] at n1 n2
  exact st.mid i0 i2 p0 p1 ⟨n1,n2⟩)
 have X0:=line1 _ _ Rat.le_refl (Rat.le_of_lt lt) ka
 have X1:=line1 _ _ (Rat.le_of_lt lt) Rat.le_refl ka'
 have X:=line1 _ _ r0 r1 hb
 have Y0:=line2 _ _ Rat.le_refl (Rat.le_of_lt lt) kb
 have Y1:=line2 _ _ (Rat.le_of_lt lt) Rat.le_refl kb'
 have Y:=line2 _ _ r0 r1 hw
 have mx : kx (toK c) (i - 1) ≤ x ∧ x ≤ kx (toK c) i:=by
  rw [X0,X1,X]
  exact ⟨line_le c1' j0 j1 r0,line_le c1' j0 j1 r1⟩
 refine ⟨i,i0,by rw [toK_len];omega,mx.1,mx.2,?_⟩
 have lx : kx (toK c) (i - 1) < kx (toK c) i:=by rw [X0,X1];exact line_lt c1' j0 j1 lt
 obtain ⟨s1,hs1⟩:=line_diff (turnK (toK l)) j
 obtain ⟨s2,hs2⟩:=line_diff (toK m) j'
 have a1:=hs1 (gt W i).q (gt W (i - 1)).q
 have a2:=hs1 v (gt W (i - 1)).q
 have a3:=hs2 (gt W i).q (gt W (i - 1)).q
 have a4:=hs2 v (gt W (i - 1)).q
 rw [← X0,← X1] at a1
 rw [← X0,← X] at a2
 rw [← Y0,← Y1] at a3
 rw [← Y0,← Y] at a4
 unfold lineQ
 exact on_line (by grind) a1 a2 a3 a4
theorem ComposeIs.comp {l m c : List Kr} (g1 : GoodL l) (g2 : GoodL m) (h : ComposeIs l m c 0) : ∃ W,Comp l m W c:=by
 rcases h with ⟨a,_⟩ | ⟨_,a,_⟩ | ⟨_,_,_,a,_⟩ | ⟨_,_,w,W,hm,h⟩
 ·exact absurd g1 a
 ·exact absurd g2 a
 ·omega
 ·rcases h with ⟨_,a,_⟩ | ⟨_,_,a,_⟩ | ⟨a,_,b,e⟩
  ·omega
  ·omega
  ·exact ⟨W,⟨g1,g2,w,hm⟩,b,a,e⟩
theorem ValIs.at_ {l : List Kr} (g : GoodL l) {xn xd u v e : Int} {q : Rat} (s : smallF 10000 xn xd) (hv : ValQ (toK l) (rq xn xd) q) (h : ValIs l xn xd u v e) : e = 0 ∧ isF u v q:=by
 have dom:=hv.dom g.corr
 rw [toK_len] at dom
 rcases h with ⟨a,_⟩ | ⟨_,a,_⟩ | ⟨_,_,a,_⟩ | ⟨_,_,a,_⟩ | ⟨_,_,_,q',hq,hv',e⟩
 ·exact absurd g a
 ·exact absurd s.1 a
 ·exact absurd s a
 ·exact absurd dom a
 ·obtain rfl:=hv'.uniq g.corr hv
  exact ⟨e,hq⟩
theorem isF.pair {a b c d : Int} {q : Rat} (h : isF a b q) (k : isF c d q) : a = c ∧ b = d:=⟨h.1.trans k.1.symm,h.2.1.trans k.2.1.symm⟩
theorem Comp.through {l m c : List Kr} {W : List F2} (h : Comp l m W c) {xn xd u v p q z z' e : Int} (k1 : ValIs l xn xd u v 0) (k2 : ValIs m u v p q 0) (k3 : ValIs c xn xd z z' e) : e = 0 ∧ z = p ∧ z' = q:=by
 obtain ⟨s1,q1,f1,v1⟩:=k1.some h.mids.g1
 obtain ⟨s2,q2,f2,v2⟩:=k2.some h.mids.g2
 rw [f1.rq] at v2
 obtain ⟨e0,f3⟩:=k3.at_ h.good s1 (h.val v1 v2)
 exact ⟨e0,f3.pair f2⟩
theorem Comp.self {l d : List Kr} {W : List F2} (h : Comp l (turnR l) W d) {xn xd u v z z' e : Int} (k1 : ValIs l xn xd u v 0) (k3 : ValIs d xn xd z z' e) : e = 0 ∧ z = xn ∧ z' = xd:=by
 obtain ⟨s1,q1,f1,v1⟩:=k1.some h.mids.g1
 have b:=v1.back h.mids.g1.corr
 rw [← toK_turn] at b
 obtain ⟨e0,f3⟩:=k3.at_ h.good s1 (h.val v1 b)
 exact ⟨e0,f3.pair s1.1.is⟩
theorem self_mem {l : List Kr} {x : F2} (h : x ∈ midList l (turnR l)) : ∃ j : Int,0 ≤ j ∧ j < l.length ∧ x = (gt l j).yF:=by
 unfold midList at h
 rcases List.mem_append.1 h with q | q
 ·obtain ⟨y,hy,rfl⟩:=List.mem_map.1 q
  obtain ⟨i,i0,i1,rfl⟩:=mem_gt hy
  exact ⟨i,i0,i1,rfl⟩
 ·obtain ⟨y,hy,rfl⟩:=List.mem_map.1 q
  obtain ⟨k,hk,rfl⟩:=List.mem_map.1 (show y ∈ l.map Kr.rev from (List.mem_filter.1 hy).1)
  obtain ⟨i,i0,i1,rfl⟩:=mem_gt hk
  exact ⟨i,i0,i1,rfl⟩
theorem self_ok {l d : List Kr} {e : Int} (g : GoodL l) (h : ComposeIs l (turnR l) d e) : e = 0:=by
 have two:=g.two
 have most:=g.most
 have w : Within l (turnR l):=by
  unfold Within
  rw [toK_turn,turnR_len,(turn_x (by omega) (by rw [toK_len];omega)).1,(turn_x (by omega) (by rw [toK_len];omega)).1]
  exact ⟨Rat.le_refl,Rat.le_refl⟩
 rcases h with ⟨a,_⟩ | ⟨_,a,_⟩ | ⟨_,_,a,_⟩ | ⟨_,_,_,W,hm,h⟩
 ·exact absurd g a
 ·exact absurd g.turn a
 ·exact absurd w a
 have at_ : ∀ i : Int,0 ≤ i → i < W.length → ∃ j : Int,0 ≤ j ∧ j < l.length ∧ gt W i = (gt l j).yF:=fun i i0 i1 => self_mem ((hm.2 _).1 (gt_mem W i0 i1))
 have up : ∀ i : Nat,(i : Int) < W.length → ∃ j : Int,i ≤ j ∧ j < l.length ∧ gt W i = (gt l j).yF:=by
  intro i
  induction i with
  | zero => intro hi;obtain ⟨j,a,b,c⟩:=at_ 0 (by omega) hi;exact ⟨j,by omega,b,c⟩
  | succ i ih =>
   intro hi
   obtain ⟨j,a,b,c⟩:=ih (by omega)
   obtain ⟨j',a',b',c'⟩:=at_ (i + 1 : Nat) (by omega) hi
   refine ⟨j',?_,b',c'⟩
   have lt:=hm.1 i (i + 1 : Nat) (by omega) (by omega) hi
   rw [c,c',← (toK_at' (by omega) b).2,← (toK_at' a' b').2] at lt
   by_cases z : j < j'
   ·push_cast;omega
   ·by_cases y : j' = j
    ·rw [y] at lt;grind
    ·have:=(g.corr.mono (i:=j') (j:=j) a' (by omega) (by rw [toK_len];exact b)).2
     grind
 have few : W.length ≤ 40:=by
  by_cases z : W.length = 0
  ·omega
  ·obtain ⟨j,a,b,_⟩:=up (W.length - 1) (by omega)
   omega
 rcases h with ⟨a,_⟩ | ⟨_,⟨i,k,i0,i1,hk,bad⟩,_⟩ | ⟨_,a,_⟩
 ·omega
 ·exfalso
  apply bad
  obtain ⟨j,j0,j1,ej⟩:=at_ i i0 i1
  obtain ⟨x,y,vx,vy,fx,fy⟩:=hk
  have kn:=ValQ.knot g.corr.turn j0 (by rw [turn_len,toK_len];exact j1)
  obtain ⟨t1,t2⟩:=turn_x (t:=toK l) j0 (by rw [toK_len];exact j1)
  rw [t1,t2] at kn
  rw [ej,← (toK_at' j0 j1).2] at vx vy
  rw [toK_turn] at vy
  obtain rfl:=vx.uniq g.corr.turn kn
  obtain rfl:=vy.uniq g.corr.turn kn
  obtain ⟨s1,s2⟩:=g.small j j0 j1
  have hx:=(g.is j0 j1).1
  obtain ⟨a1,a2⟩:=fx.pair hx
  obtain ⟨b1,b2⟩:=fy.pair hx
  unfold smallK
  rw [a1,a2,b1,b2]
  exact ⟨s1,s1⟩
 ·exact a
end Go.Proofs.Ytnokkniofajnhaa
