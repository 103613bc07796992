import Derived.Test.YtnokkniofajnhaaQuPx
import Derived.Test.YtnokkniofajnhaaQuMi
set_option linter.unusedSimpArgs false
set_option linter.unusedVariables false
namespace Go.Proofs.Ytnokkniofajnhaa
open Go.Sim
set_option maxRecDepth 100000
theorem PairIs.step {l m : List Kr} (g1 : GoodL l) (g2 : GoodL m) {V W : List F2} {O O' : List Kr} (h : PairIs l m V W O) {x : F2} {k : Kr} (hx : okF x.n x.d) (hk : KnotAt l m x.q k) {p : Nat} (pl : PlaceIs O k p) (r : (p < O.length ∧ gt O p = k ∧ O' = O) ∨ ((p < O.length → gt O p ≠ k) ∧ O' = O.take p ++ k :: O.drop p)) : ∃ W',PairIs l m (V ++ [x]) W' O':=by
 rcases r with ⟨a,b,rfl⟩ | ⟨a,rfl⟩
 ·exact ⟨W,h.there g1 hx hk a b⟩
 ·exact ⟨_,h.put g1 g2 hx hk pl a⟩
theorem PairIs.okX {l m : List Kr} {V W : List F2} {O : List Kr} (h : PairIs l m V W O) : okX O ∧ allI64 O:=by
 constructor
 ·intro i i0 i1
  exact ⟨_,(h.at_ i i0 (by have:=h.len;omega)).x.1⟩
 ·intro i i0 i1
  obtain ⟨x,y,_,_,h3,h4⟩:=h.at_ i i0 (by have:=h.len;omega)
  exact ⟨h3.i64n,h3.i64d,h4.i64n,h4.i64d⟩
theorem PairIs.step_len {l m : List Kr} {V W : List F2} {O O' : List Kr} {k : Kr} {p : Nat} (pl : PlaceIs O k p) (r : (p < O.length ∧ gt O p = k ∧ O' = O) ∨ ((p < O.length → gt O p ≠ k) ∧ O' = O.take p ++ k :: O.drop p)) : O'.length ≤ O.length + 1:=by
 rcases r with ⟨_,_,rfl⟩ | ⟨_,rfl⟩
 ·omega
 ·rw [ins_len O k pl.le];exact Nat.le_refl _
variable {F : Prims} {call head arith a0 b0 bnot c0 e0 f0 g0 k0 ofNat l0 place inR nz m0 rd wr n0 next o0 p0 s0 u0 v0 w0 x0 y0 z0 a1 b1 c1 l1 m1 lowered bump o1 addN lt ne s1 u1 v1 yn w1 d2 l2 m2 s2 t2 : _} (hA : AP F ⟨call,head,arith,a0,b0,bnot,c0,e0,f0,g0,k0,ofNat,l0,place,inR,nz,m0,rd,wr,n0,next,o0,p0,s0,u0,v0,w0,x0,y0,z0,a1,b1,c1,l1,m1,lowered,bump,o1,addN,lt,ne,s1,u1,v1,yn,w1,d2,l2,m2,s2,t2⟩)
include hA
set_option maxHeartbeats 1000000 in
theorem rcom_10 {h0 : AHeap} (hlow : h0.low ≤ h0.next) {b o b2 o2 n c n2 c2 : Nat} {l m : List Kr} (hl : Ks h0 (some ⟨b,o,none⟩) n l) (hi : allI64 l) (hm : Ks h0 (some ⟨b2,o2,none⟩) n2 m) (hi2 : allI64 m) (g1 : GoodL l) (g2 : GoodL m) (wi : Within l m) {A B : List Value} {Q : Exit → SS → Prop}
  (hok : ∀ h' oa on oc W O,PairIs l m (l.map Kr.yF) W O → Ks h' oa on O → on ≤ n → (oc = someCap 4 on ∨ (on = 0 ∧ oa = none ∧ oc = 0)) → Ext h0 h' → Q (.exit 0) ⟨[(0,.slice (some ⟨b,o,none⟩) n c),(1,.slice (some ⟨b2,o2,none⟩) n2 c2),(6,.pointer (some ⟨11,0,some 0⟩)),(7,.pointer (some ⟨12,0,some 0⟩)),(8,.slice oa on oc)],32,[(11,A),(12,B)],h'⟩) :
  ∀ (w : Nat) (i : Int) (h : AHeap) (oa : Option Addr) (on oc : Nat) (W : List F2) (O : List Kr),(n - i).toNat ≤ w → 0 ≤ i → i ≤ n → PairIs l m ((l.take i.toNat).map Kr.yF) W O → Ks h oa on O → on ≤ i → (oc = someCap 4 on ∨ (on = 0 ∧ oa = none ∧ oc = 0)) → Ext h0 h →
   head 18 10 32 ⟨[(0,.slice (some ⟨b,o,none⟩) n c),(1,.slice (some ⟨b2,o2,none⟩) n2 c2),(6,.pointer (some ⟨11,0,some 0⟩)),(7,.pointer (some ⟨12,0,some 0⟩)),(8,.slice oa on oc),(9,.int .i64 i)],32,[(11,A),(12,B)],h⟩ Q:=by
 have hlen:=hl.len
 have hlen2:=hm.len
 have two1:=g1.two
 have few1:=g1.most
 intro w
 induction w with
 | zero =>
  intro i h oa on oc W O hm' i0 i1 pr ho hon hoc he
  refine hA.roundR Try.func18 r18_ok (zc ?_)
  refine br (i < n) (by rw [e_lss hA,e_ofNat hA]) (fun q => by omega) (fun _ => ?_) <;> refine zc ?_
  rw [List.take_of_length_le (by omega)] at pr
  exact hok h oa on oc W O pr ho (by omega) hoc he
 | succ w ih =>
 intro i h oa on oc W O hm' i0 i1 pr ho hon hoc he
 by_cases ci : i < n
 rotate_left
 ·refine hA.roundR Try.func18 r18_ok (zc ?_)
  refine br (i < n) (by rw [e_lss hA,e_ofNat hA]) (fun q => absurd q ci) (fun _ => ?_) <;> refine zc ?_
  rw [List.take_of_length_le (by omega)] at pr
  exact hok h oa on oc W O pr ho (by omega) hoc he
 obtain ⟨g9,hg9⟩ : ∃ z,z = bump h 16:=⟨_,rfl⟩
 have x9 : Ext h g9:=by rw [hg9];exact ext_bump hA _ _
 have e9:=he.trans x9
 have l9:=e9.lowOK hlow
 obtain ⟨bn9,xn,xd,yn,yd,hg,_,_,_,_,_,r1,r2⟩:=ks_in (hl.ext e9) hi (i:=i) i0 ci
 have q1:=rd_fld hA r1
 have q2:=rd_fld hA r2
 replace q1 : rd g9 b (addN (place o i 4) 0) 2 [.int .i64 xn,.int .i64 xd]:=q1
 replace q2 : rd g9 b (addN (place o i 4) 2) 2 [.int .i64 yn,.int .i64 yd]:=q2
 obtain ⟨xI,yI⟩:=g1.is (i:=i) i0 (by omega)
 have sm:=(g1.small i i0 (by omega)).2
 have eK:=toK_at (l:=l) (i:=i) i0 (by omega)
 have bY : bnd (ky (toK l) i) 10000 10000:=by rw [eK.2];exact bnd.wide sm.bnd
 have d0 : kx (toK m) 0 ≤ ky (toK l) i:=by
  refine Rat.le_trans wi.1 ?_
  by_cases z : i = 0
  ·rw [z];exact Rat.le_refl
  ·exact Rat.le_of_lt (g1.corr.mono (Int.le_refl 0) (by omega) (by rw [toK_len];omega)).2
 have d1 : ky (toK l) i ≤ kx (toK m) (n2 - 1):=by
  rw [← hlen2]
  refine Rat.le_trans ?_ wi.2
  by_cases z : i = l.length - 1
  ·rw [z];exact Rat.le_refl
  ·exact Rat.le_of_lt (g1.corr.mono i0 (by omega) (by rw [toK_len];omega)).2
 rw [hg] at xI yI eK
 replace xI : isF xn xd (kx (toK l) i):=xI
 replace yI : isF yn yd (ky (toK l) i):=yI
 refine hA.roundR Try.func18 r18_ok (zc ?_)
 refine br (i < n) (by rw [e_lss hA,e_ofNat hA]) (fun _ => ?_) (fun q => absurd ci q) <;> refine zc ?_
 rw [← hg9]
 refine zq ?_
 refine at_ok hA (low_fresh hA g9) (hm.ext (e9.trans (ext_fresh hA g9))) hi2 g2 yI bY d0 d1 (fun u v q hz uI vq ez => ⟨_,_,rfl,?_⟩)
 obtain ⟨gX,hgX⟩ : ∃ z,z = lowered g9 hz:=⟨_,rfl⟩
 have eX : Ext g9 gX:=by rw [hgX];exact ext_low hA l9 (.refl g9) ez
 have yX:=e9.trans eX
 have lX:=yX.lowOK hlow
 refine zc ?_
 rw [← hgX]
 have kA : KnotAt l m (F2.q ⟨yn,yd⟩) ⟨xn,xd,u,v⟩:=by
  refine ⟨kx (toK l) i,q,?_,?_,xI,uI⟩
  ·have t:=turn_x (t:=toK l) (i:=i) i0 (by rw [toK_len];omega)
   have k:=ValQ.knot g1.corr.turn (i:=i) i0 (by rw [turn_len,toK_len];omega)
   rw [t.1,t.2] at k
   show ValQ _ (rq yn yd) _
   rw [← eK.2]
   exact k
  ·show ValQ _ (rq yn yd) _
   rw [← eK.2]
   exact vq
 obtain ⟨okO,i6O⟩:=pr.okX
 refine put_ok hA (low_fresh hA gX) (ho.ext ((x9.trans eX).trans (ext_fresh hA gX))) i6O okO (by omega) hoc (k:=⟨xn,xd,u,v⟩) ⟨_,xI⟩ (fun hp a' n' c' O' p pl rr ho' hc' ez2 => ⟨_,_,_,rfl,?_⟩)
 obtain ⟨gY,hgY⟩ : ∃ z,z = lowered gX hp:=⟨_,rfl⟩
 have eY : Ext gX gY:=by rw [hgY];exact ext_low hA lX (.refl gX) ez2
 have yY:=yX.trans eY
 have hoY : Ks gY a' n' O':=by rw [hgY,e_lowered hA];exact ⟨ho'.cells,ho'.each,ho'.pos⟩
 refine zc ?_
 rw [← hgY]
 have n9 : g9.next = h.next + 16:=by rw [hg9,e_bump hA];rfl
 refine ⟨fp_old hA (wrote_no hA ez) (by rw [e_addN hA,e_next hA];omega),?_⟩
 refine zc ?_
 rw [add64 hA (by omega) (by omega)]
 obtain ⟨W',pr'⟩:=pr.step g1 g2 (x:=⟨yn,yd⟩) ⟨_,yI⟩ kA pl rr
 have ln:=PairIs.step_len (l:=l) (m:=m) (V:=[]) (W:=[]) pl rr
 have lO:=ho.len
 have lO':=hoY.len
 refine ih (i + 1) gY a' n' c' W' O' (by omega) (by omega) (by omega) ?_ hoY (by omega) (.inl hc') yY
 have tk : l.take (i + 1).toNat = l.take i.toNat ++ [gt l i]:=gt_take l i0 (by omega)
 rw [tk,List.map_append,List.map_cons,List.map_nil,hg]
 exact pr'
set_option maxHeartbeats 1000000 in
theorem rcom_14 {h0 : AHeap} (hlow : h0.low ≤ h0.next) {b o b2 o2 n c n2 c2 : Nat} {l m : List Kr} (hl : Ks h0 (some ⟨b,o,none⟩) n l) (hi : allI64 l) (hm : Ks h0 (some ⟨b2,o2,none⟩) n2 m) (hi2 : allI64 m) (g1 : GoodL l) (g2 : GoodL m) (wi : Within l m) {low1 low2 high1 high2 : Int} (lowI : isF low1 low2 (ky (toK l) 0)) (highI : isF high1 high2 (ky (toK l) (l.length - 1))) {Q : Exit → SS → Prop}
  (hok : ∀ h' oa on oc W O kn K,PairIs l m (midList l m) W O → Ks h' oa on O → on ≤ n + n2 → (oc = someCap 4 on ∨ (on = 0 ∧ oa = none ∧ oc = 0)) → Ext h0 h' → Q (.exit 2) ⟨[(8,.slice oa on oc)],kn,K,h'⟩) :
  ∀ (w : Nat) (i : Int) (h : AHeap) (oa : Option Addr) (on oc : Nat) (W : List F2) (O : List Kr),(n2 - i).toNat ≤ w → 0 ≤ i → i ≤ n2 → PairIs l m (l.map Kr.yF ++ ((m.take i.toNat).filter (inRange l)).map Kr.xF) W O → Ks h oa on O → on ≤ n + i → (oc = someCap 4 on ∨ (on = 0 ∧ oa = none ∧ oc = 0)) → Ext h0 h →
   head 18 14 32 ⟨[(0,.slice (some ⟨b,o,none⟩) n c),(1,.slice (some ⟨b2,o2,none⟩) n2 c2),(6,.pointer (some ⟨11,0,some 0⟩)),(7,.pointer (some ⟨12,0,some 0⟩)),(8,.slice oa on oc),(10,.int .i64 i)],32,[(11,[.int .i64 low1,.int .i64 low2]),(12,[.int .i64 high1,.int .i64 high2])],h⟩ Q:=by
 have hlen:=hl.len
 have hlen2:=hm.len
 have two1:=g1.two
 have few1:=g1.most
 have few2:=g2.most
 have eL0:=(toK_at (l:=l) (i:=0) (by omega) (by omega)).2
 have eL1:=(toK_at (l:=l) (i:=l.length - 1) (by omega) (by omega)).2
 intro w
 induction w with
 | zero =>
  intro i h oa on oc W O hm' i0 i1 pr ho hon hoc he
  refine hA.roundR Try.func18 r18_ok (zc ?_)
  refine br (i < n2) (by rw [e_lss hA,e_ofNat hA]) (fun q => by omega) (fun _ => ?_) <;> refine zc ?_
  rw [List.take_of_length_le (by omega)] at pr
  exact hok h oa on oc W O _ _ pr ho (by omega) hoc he
 | succ w ih =>
 intro i h oa on oc W O hm' i0 i1 pr ho hon hoc he
 by_cases ci : i < n2
 rotate_left
 ·refine hA.roundR Try.func18 r18_ok (zc ?_)
  refine br (i < n2) (by rw [e_lss hA,e_ofNat hA]) (fun q => absurd q ci) (fun _ => ?_) <;> refine zc ?_
  rw [List.take_of_length_le (by omega)] at pr
  exact hok h oa on oc W O _ _ pr ho (by omega) hoc he
 have e1 : arith .add .i64 i 1 = i + 1:=add64 hA (by omega) (by omega)
 have tk : m.take (i + 1).toNat = m.take i.toNat ++ [gt m i]:=gt_take m i0 (by omega)
 obtain ⟨g9,hg9⟩ : ∃ z,z = bump h 18:=⟨_,rfl⟩
 have x9 : Ext h g9:=by rw [hg9];exact ext_bump hA _ _
 have e9:=he.trans x9
 have l9:=e9.lowOK hlow
 obtain ⟨_,xn,xd,yn,yd,hg,_,_,_,_,_,r1,_⟩:=ks_in (hm.ext e9) hi2 (i:=i) i0 ci
 have q1:=rd_fld hA r1
 replace q1 : rd g9 b2 (addN (place o2 i 4) 0) 2 [.int .i64 xn,.int .i64 xd]:=q1
 obtain ⟨xI,yI⟩:=g2.is (i:=i) i0 (by omega)
 have sm:=(g2.small i i0 (by omega)).1
 have eK:=toK_at (l:=m) (i:=i) i0 (by omega)
 have bX : bnd (kx (toK m) i) 10000 10000:=by rw [eK.1];exact bnd.wide sm.bnd
 have inR : inRange l (gt m i) = true ↔ ky (toK l) 0 ≤ kx (toK m) i ∧ kx (toK m) i ≤ ky (toK l) (l.length - 1):=by
  unfold inRange
  rw [decide_eq_true_iff,eK.1,eL0,eL1]
  exact Iff.rfl
 rw [hg] at xI yI eK inR tk
 replace xI : isF xn xd (kx (toK m) i):=xI
 replace yI : isF yn yd (ky (toK m) i):=yI
 have skip : ¬ (ky (toK l) 0 ≤ kx (toK m) i ∧ kx (toK m) i ≤ ky (toK l) (l.length - 1)) → PairIs l m (l.map Kr.yF ++ ((m.take (i + 1).toNat).filter (inRange l)).map Kr.xF) W O:=fun q => by
  rw [tk,List.filter_append,List.filter_cons,if_neg (fun z => q (inR.1 z)),List.filter_nil,List.append_nil]
  exact pr
 refine hA.roundR Try.func18 r18_ok (zc ?_)
 refine br (i < n2) (by rw [e_lss hA,e_ofNat hA]) (fun _ => ?_) (fun q => absurd ci q) <;> refine zc ?_
 rw [← hg9]
 refine zq ?_
 refine qless_ok hA (low_fresh hA g9) xI lowI (fun r hz kk ez => ⟨_,rfl,?_⟩)
 obtain ⟨gX,hgX⟩ : ∃ z,z = lowered g9 hz:=⟨_,rfl⟩
 have eX : Ext g9 gX:=by rw [hgX];exact ext_low hA l9 (.refl g9) ez
 have yX:=e9.trans eX
 have lX:=yX.lowOK hlow
 refine zc ?_
 rw [← hgX]
 cases r with
 | true =>
  rw [show bnot true = false by rw [e_bnot hA];rfl]
  refine zc ?_
  rw [e1]
  exact ih (i + 1) gX oa on oc W O (by omega) (by omega) (by omega) (skip (fun q => absurd (kk.1 rfl) (Rat.not_lt.2 q.1))) (ho.ext (x9.trans eX)) (by omega) hoc yX
 | false =>
 have lo : ky (toK l) 0 ≤ kx (toK m) i:=Rat.not_lt.1 (fun q => by have:=kk.2 q;cases this)
 rw [show bnot false = true by rw [e_bnot hA];rfl]
 obtain ⟨_,xn',xd',yn',yd',hg',_,_,_,_,_,r3,_⟩:=ks_in (hm.ext yX) hi2 (i:=i) i0 ci
 rw [hg] at hg'
 cases hg'
 have q3:=rd_fld hA r3
 replace q3 : rd gX b2 (addN (place o2 i 4) 0) 2 [.int .i64 xn,.int .i64 xd]:=q3
 refine zq ?_
 refine qless_ok hA (low_fresh hA gX) highI xI (fun r hz2 kk2 ez2 => ⟨_,rfl,?_⟩)
 obtain ⟨gY,hgY⟩ : ∃ z,z = lowered gX hz2:=⟨_,rfl⟩
 have eY : Ext gX gY:=by rw [hgY];exact ext_low hA lX (.refl gX) ez2
 have yY:=yX.trans eY
 have lY:=yY.lowOK hlow
 refine zc ?_
 rw [← hgY]
 cases r with
 | true =>
  rw [show bnot true = false by rw [e_bnot hA];rfl]
  refine zc ?_
  rw [e1]
  exact ih (i + 1) gY oa on oc W O (by omega) (by omega) (by omega) (skip (fun q => absurd (kk2.1 rfl) (Rat.not_lt.2 q.2))) (ho.ext ((x9.trans eX).trans eY)) (by omega) hoc yY
 | false =>
 have hgh : kx (toK m) i ≤ ky (toK l) (l.length - 1):=Rat.not_lt.1 (fun q => by have:=kk2.2 q;cases this)
 rw [show bnot false = true by rw [e_bnot hA];rfl]
 have iR:=inR.2 ⟨lo,hgh⟩
 obtain ⟨h9,hh9⟩ : ∃ z,z = bump gY 17:=⟨_,rfl⟩
 have z9 : Ext gY h9:=by rw [hh9];exact ext_bump hA _ _
 have f9:=yY.trans z9
 have m9:=f9.lowOK hlow
 obtain ⟨bn9,xn',xd',yn',yd',hg',_,_,_,_,_,r5,r6⟩:=ks_in (hm.ext f9) hi2 (i:=i) i0 ci
 rw [hg] at hg'
 cases hg'
 have q5:=rd_fld hA r5
 have q6:=rd_fld hA r6
 replace q5 : rd h9 b2 (addN (place o2 i 4) 0) 2 [.int .i64 xn,.int .i64 xd]:=q5
 replace q6 : rd h9 b2 (addN (place o2 i 4) 2) 2 [.int .i64 yn,.int .i64 yd]:=q6
 refine zc ?_
 rw [← hh9]
 refine zq ?_
 refine turned_ok hA (low_fresh hA h9) (hl.ext (f9.trans (ext_fresh hA h9))) hi (by omega) (fun ta tc hz3 ht ez3 => ⟨_,_,_,rfl,?_⟩)
 obtain ⟨gT,hgT⟩ : ∃ z,z = lowered h9 hz3:=⟨_,rfl⟩
 have eT : Ext h9 gT:=by rw [hgT];exact ext_low hA m9 (.refl h9) ez3
 have yT:=f9.trans eT
 have lT:=yT.lowOK hlow
 have htT : Ks gT ta n (turnR l):=by rw [hgT,e_lowered hA];exact ⟨ht.cells,ht.each,ht.pos⟩
 refine zc ?_
 rw [← hgT]
 have t0:=(turn_x (t:=toK l) (i:=0) (by omega) (by rw [toK_len];omega)).1
 have t1:=(turn_x (t:=toK l) (i:=l.length - 1) (by omega) (by rw [toK_len];omega)).1
 refine at_ok hA (low_fresh hA gT) (htT.ext (ext_fresh hA gT)) hi.turn g1.turn xI bX (by rw [toK_turn,t0];exact lo) (by rw [toK_turn,← hlen,t1];exact hgh) (fun u v q hz4 uI vq ez4 => ⟨_,_,rfl,?_⟩)
 obtain ⟨gA,hgA⟩ : ∃ z,z = lowered gT hz4:=⟨_,rfl⟩
 have eA : Ext gT gA:=by rw [hgA];exact ext_low hA lT (.refl gT) ez4
 have yA:=yT.trans eA
 have lA:=yA.lowOK hlow
 refine zc ?_
 rw [← hgA]
 have kA : KnotAt l m (F2.q ⟨xn,xd⟩) ⟨u,v,yn,yd⟩:=by
  refine ⟨q,ky (toK m) i,?_,?_,uI,yI⟩
  ·rw [toK_turn] at vq
   show ValQ _ (rq xn xd) _
   rw [← eK.1]
   exact vq
  ·show ValQ _ (rq xn xd) _
   rw [← eK.1]
   exact ValQ.knot g2.corr i0 (by rw [toK_len];omega)
 obtain ⟨okO,i6O⟩:=pr.okX
 have xAll:=(((x9.trans eX).trans eY).trans z9).trans (eT.trans eA)
 refine put_ok hA (low_fresh hA gA) (ho.ext (xAll.trans (ext_fresh hA gA))) i6O okO (by omega) hoc (k:=⟨u,v,yn,yd⟩) ⟨_,uI⟩ (fun hp a' n' c' O' p pl rr ho' hc' ez5 => ⟨_,_,_,rfl,?_⟩)
 obtain ⟨gP,hgP⟩ : ∃ z,z = lowered gA hp:=⟨_,rfl⟩
 have eP : Ext gA gP:=by rw [hgP];exact ext_low hA lA (.refl gA) ez5
 have yP:=yA.trans eP
 have hoP : Ks gP a' n' O':=by rw [hgP,e_lowered hA];exact ⟨ho'.cells,ho'.each,ho'.pos⟩
 refine zc ?_
 rw [← hgP]
 have n9 : h9.next = gY.next + 17:=by rw [hh9,e_bump hA];rfl
 have lim : b2 < addN (next gY) 17:=by rw [e_addN hA,e_next hA];omega
 refine ⟨fp_old hA (wrote_no hA ez3) lim,fp_old hA (wrote_no hA ez3) lim,fp_old hA (wrote_no hA ez4) lim,?_⟩
 refine zc ?_
 rw [e1]
 obtain ⟨W',pr'⟩:=pr.step g1 g2 (x:=⟨xn,xd⟩) ⟨_,xI⟩ kA pl rr
 have ln:=PairIs.step_len (l:=l) (m:=m) (V:=[]) (W:=[]) pl rr
 have lO:=ho.len
 have lO':=hoP.len
 refine ih (i + 1) gP a' n' c' W' O' (by omega) (by omega) (by omega) ?_ hoP (by omega) (.inl hc') yP
 rw [tk,List.filter_append,List.filter_cons,if_pos iR,List.filter_nil,List.map_append,List.map_cons,List.map_nil,← List.append_assoc]
 exact pr'
theorem rcom_21 {h0 : AHeap} (hlow : h0.low ≤ h0.next) {oa : Option Addr} {on oc : Nat} {O : List Kr} (ho : Ks h0 oa on O) (hi : allI64 O) (hn : on ≤ 1000) {kn : Nat} {K : List (Nat × List Value)} {Q : Exit → SS → Prop}
  (hbad : ∀ h' e kn K,(∃ i : Int,0 ≤ i ∧ i < O.length ∧ ¬ smallK (gt O i)) → Ext h0 h' → Q .ret ⟨(5,.int .i64 16) :: (4,.slice none 0 0) :: e,kn,K,h'⟩)
  (hok : ∀ h' kn K,(∀ i : Int,0 ≤ i → i < O.length → smallK (gt O i)) → Ext h0 h' → Q (.exit 4) ⟨[(8,.slice oa on oc)],kn,K,h'⟩) :
  ∀ (w : Nat) (i : Int) (h : AHeap),(on - i).toNat ≤ w → 0 ≤ i → i ≤ on → (∀ j : Int,0 ≤ j → j < i → smallK (gt O j)) → Ext h0 h →
   head 18 21 kn ⟨[(8,.slice oa on oc),(11,.int .i64 i)],kn,K,h⟩ Q:=by
 have lO:=ho.len
 intro w
 induction w with
 | zero =>
  intro i h hm' i0 i1 hj he
  refine hA.roundR Try.func18 r18_ok (zc ?_)
  refine br (i < on) (by rw [e_lss hA,e_ofNat hA]) (fun q => by omega) (fun _ => ?_) <;> refine zc ?_
  exact hok h _ _ (fun j j0 j1 => hj j j0 (by omega)) he
 | succ w ih =>
 intro i h hm' i0 i1 hj he
 by_cases ci : i < on
 rotate_left
 ·refine hA.roundR Try.func18 r18_ok (zc ?_)
  refine br (i < on) (by rw [e_lss hA,e_ofNat hA]) (fun q => absurd q ci) (fun _ => ?_) <;> refine zc ?_
  exact hok h _ _ (fun j j0 j1 => hj j j0 (by omega)) he
 obtain ⟨b,o,xn,xd,yn,yd,rfl,_,hg,i1',i2,i3,i4,_,r1,r2⟩:=ks_at (ho.ext he) hi (i:=i) i0 ci
 have q1:=rd_fld hA r1
 replace q1 : rd h b (addN (place o i 4) 0) 2 [.int .i64 xn,.int .i64 xd]:=q1
 refine hA.roundR Try.func18 r18_ok (zc ?_)
 refine br (i < on) (by rw [e_lss hA,e_ofNat hA]) (fun _ => ?_) (fun q => absurd ci q) <;> refine zc ?_
 refine zq ?_
 refine fits_ok hA (he.lowOK hlow) i1' i2 (by omega) (fun r h1 k1 x1 => ⟨_,rfl,?_⟩)
 have y1:=he.trans x1
 cases r with
 | false =>
  refine zc ?_
  rw [show bnot false = true by rw [e_bnot hA];rfl]
  refine zc ?_
  exact hbad h1 _ _ _ ⟨i,i0,by omega,fun s => by rw [hg] at s;have:=k1.2 s.1;cases this⟩ y1
 | true =>
 refine zc ?_
 rw [show bnot true = false by rw [e_bnot hA];rfl]
 obtain ⟨_,xn',xd',yn',yd',hg',_,_,_,_,_,_,r3⟩:=ks_in (ho.ext y1) hi (i:=i) i0 ci
 rw [hg] at hg'
 cases hg'
 have q3:=rd_fld hA r3
 replace q3 : rd h1 b (addN (place o i 4) 2) 2 [.int .i64 yn,.int .i64 yd]:=q3
 refine zq ?_
 refine fits_ok hA (y1.lowOK hlow) i3 i4 (by omega) (fun r h2 k2 x2 => ⟨_,rfl,?_⟩)
 have y2:=y1.trans x2
 cases r with
 | false =>
  refine zc ?_
  rw [show bnot false = true by rw [e_bnot hA];rfl]
  refine zc ?_
  exact hbad h2 _ _ _ ⟨i,i0,by omega,fun s => by rw [hg] at s;have:=k2.2 s.2;cases this⟩ y2
 | true =>
 refine zc ?_
 rw [show bnot true = false by rw [e_bnot hA];rfl]
 refine zc ?_
 rw [add64 hA (by omega) (by omega)]
 refine ih (i + 1) h2 (by omega) (by omega) (by omega) (fun j j0 j1 => ?_) y2
 by_cases e : j = i
 ·rw [e,hg];exact ⟨k1.1 rfl,k2.1 rfl⟩
 ·exact hj j j0 (by omega)
theorem rcompose_ok {h : AHeap} (hlow : h.low ≤ h.next) {a a2 : Option Addr} {n c n2 c2 : Nat} {l m : List Kr} (hl : Ks h a n l) (hi : allI64 l) (hm : Ks h a2 n2 m) (hi2 : allI64 m) {Q : Value → AHeap → Prop}
  (hQ : ∀ h' a' k c' out e,Ks h' a' k out → allI64 out → ComposeIs l m out e → Ext h h' → Q (.tuple #[.slice a' k c',.int .i64 e]) h') : call 18 [.slice a n c,.slice a2 n2 c2] h Q:=by
 have hlen:=hl.len
 have hlen2:=hm.len
 have none' : ∀ h',Ks h' none 0 []:=fun h' => Rows.nil h' kr_len (by omega)
 have nil64 : allI64 []:=fun i i0 i1 => by simp at i1;omega
 refine hA.bodyR Try.func18 r18_ok (hA.alike _ _ _ rfl) hlow (zc ?_)
 refine rqcheck_ok hA hlow hl hi (fun e1 h1 k1 x1 => ⟨_,rfl,?_⟩)
 refine zc ?_
 refine br (e1 ≠ 0) (by rw [e_neq hA]) (fun z1 => ?_) (fun z1 => ?_) <;> refine zc ?_
 ·refine rqcheck_ok hA (x1.lowOK hlow) (hl.ext x1) hi (fun e2 h2 k2 x2 => ⟨_,rfl,?_⟩)
  obtain rfl:=k1.uniq k2
  refine zc ?_
  exact hQ h2 none 0 0 [] e1 (none' _) nil64 (.inl ⟨fun g => z1 (k1.good.2 g),k1,rfl⟩) (x1.trans x2)
 obtain rfl : e1 = 0:=by omega
 have g1:=k1.good.1 rfl
 refine rqcheck_ok hA (x1.lowOK hlow) (hm.ext x1) hi2 (fun e2 h2 k2 x2 => ⟨_,rfl,?_⟩)
 have y2:=x1.trans x2
 refine zc ?_
 refine br (e2 ≠ 0) (by rw [e_neq hA]) (fun z2 => ?_) (fun z2 => ?_) <;> refine zc ?_
 ·refine rqcheck_ok hA (y2.lowOK hlow) (hm.ext y2) hi2 (fun e3 h3 k3 x3 => ⟨_,rfl,?_⟩)
  obtain rfl:=k2.uniq k3
  refine zc ?_
  exact hQ h3 none 0 0 [] e2 (none' _) nil64 (.inr (.inl ⟨g1,fun g => z2 (k2.good.2 g),k2,rfl⟩)) (y2.trans x3)
 obtain rfl : e2 = 0:=by omega
 have g2:=k2.good.1 rfl
 have two1:=g1.two
 have two2:=g2.two
 have few1:=g1.most
 have few2:=g2.most
 obtain ⟨n1,hn1⟩ : ∃ z : Int,z = n - 1:=⟨_,rfl⟩
 have en1 : arith .sub .i64 (ofNat n) 1 = n1:=by rw [hn1,e_ofNat hA];exact sub64 hA (by omega) (by omega)
 obtain ⟨n3,hn3⟩ : ∃ z : Int,z = n2 - 1:=⟨_,rfl⟩
 have en3 : arith .sub .i64 (ofNat n2) 1 = n3:=by rw [hn3,e_ofNat hA];exact sub64 hA (by omega) (by omega)
 obtain ⟨g5,hg5⟩ : ∃ z,z = bump h2 15:=⟨_,rfl⟩
 have x5 : Ext h2 g5:=by rw [hg5];exact ext_bump hA _ _
 have y5:=y2.trans x5
 obtain ⟨b,o,ux,uy,low1,low2,rfl,_,hgl,i1,i2,i3,i4,_,_,r0⟩:=ks_at (hl.ext y5) hi (i:=0) (by omega) (by omega)
 obtain ⟨_,vx,vy,high1,high2,hgh,i5,i6,i7,i8,_,_,r1⟩:=ks_in (hl.ext y5) hi (i:=n1) (by omega) (by omega)
 have q0:=rd_fld hA r0
 have q1:=rd_fld hA r1
 (refine zq ?_;repeat ((first | rw [en1]);refine zq ?_))
 rw [← hg5]
 (refine zq ?_;repeat ((first | rw [en1]);refine zq ?_))
 have lowI:=(g1.is (i:=0) (by omega) (by omega)).2
 have highI:=(g1.is (i:=n1) (by omega) (by omega)).2
 rw [hgl] at lowI
 rw [hgh] at highI
 replace lowI : isF low1 low2 (ky (toK l) 0):=lowI
 replace highI : isF high1 high2 (ky (toK l) n1):=highI
 obtain ⟨g6,hg6⟩ : ∃ z,z = bump g5 17:=⟨_,rfl⟩
 have x6 : Ext g5 g6:=by rw [hg6];exact ext_bump hA _ _
 have y6:=y5.trans x6
 have l6:=y6.lowOK hlow
 obtain ⟨b2,o2,p1,p2,p3,p4,rfl,_,hgm,j1,j2,j3,j4,_,r2,_⟩:=ks_at (hm.ext y6) hi2 (i:=0) (by omega) (by omega)
 have q2:=rd_fld hA r2
 have fstI:=(g2.is (i:=0) (by omega) (by omega)).1
 rw [hgm] at fstI
 replace fstI : isF p1 p2 (kx (toK m) 0):=fstI
 rw [← hg6]
 refine zq ?_
 refine qless_ok hA (low_fresh hA g6) lowI fstI (fun r hz kk ez => ⟨_,rfl,?_⟩)
 obtain ⟨gX,hgX⟩ : ∃ z,z = lowered g6 hz:=⟨_,rfl⟩
 have eX : Ext g6 gX:=by rw [hgX];exact ext_low hA l6 (.refl g6) ez
 have yX:=y6.trans eX
 have lX:=yX.lowOK hlow
 refine zc ?_
 rw [← hgX]
 have bad : ¬ Within l m → ∀ h',Ext h h' → Q (.tuple #[.slice none 0 0,.int .i64 6]) h':=fun w h' x' => hQ h' none 0 0 [] 6 (none' _) nil64 (.inr (.inr (.inl ⟨g1,g2,w,rfl,rfl⟩))) x'
 cases r with
 | true =>
  refine zc ?_
  exact bad (fun w => absurd (kk.1 rfl) (Rat.not_lt.2 w.1)) gX yX
 | false =>
 obtain ⟨_,p5,p6,p7,p8,hgn,j5,j6,j7,j8,_,r3,_⟩:=ks_in (hm.ext yX) hi2 (i:=n3) (by omega) (by omega)
 have q3:=rd_fld hA r3
 have lstI:=(g2.is (i:=n3) (by omega) (by omega)).1
 rw [hgn] at lstI
 replace lstI : isF p5 p6 (kx (toK m) n3):=lstI
 (refine zq ?_;repeat ((first | rw [en3]);refine zq ?_))
 refine qless_ok hA (low_fresh hA gX) lstI highI (fun r hz2 kk2 ez2 => ⟨_,rfl,?_⟩)
 obtain ⟨gY,hgY⟩ : ∃ z,z = lowered gX hz2:=⟨_,rfl⟩
 have eY : Ext gX gY:=by rw [hgY];exact ext_low hA lX (.refl gX) ez2
 have yY:=yX.trans eY
 have lY:=yY.lowOK hlow
 refine zc ?_
 rw [← hgY]
 cases r with
 | true =>
  refine zc ?_
  exact bad (fun w => absurd (kk2.1 rfl) (Rat.not_lt.2 (by have:=w.2;rwa [show (m.length : Int) - 1 = n3 by omega,show (l.length : Int) - 1 = n1 by omega] at this))) gY yY
 | false =>
 have wi : Within l m:=⟨Rat.not_lt.1 (fun q => by have:=kk.2 q;cases this),by
  rw [show (m.length : Int) - 1 = n3 by omega,show (l.length : Int) - 1 = n1 by omega]
  exact Rat.not_lt.1 (fun q => by have:=kk2.2 q;cases this)⟩
 refine zc ?_
 refine rcom_10 hA lY (hl.ext yY) hi (hm.ext yY) hi2 g1 g2 wi (fun h7 oa on oc W O pr ho hon hoc x7 => ?_) n 0 gY none 0 0 [] [] (by omega) (by omega) (by omega) (by simpa using PairIs.nil l m) (none' _) (by omega) (.inr ⟨rfl,rfl,rfl⟩) (.refl gY)
 have y7:=yY.trans x7
 refine zc ?_
 refine rcom_14 hA (y7.lowOK hlow) (hl.ext y7) hi (hm.ext y7) hi2 g1 g2 wi lowI (by rw [show (l.length : Int) - 1 = n1 by omega];exact highI) (fun h8 oa on oc W O kn K pr ho hon hoc x8 => ?_) n2 0 h7 oa on oc W O (by omega) (by omega) (by omega) (by simpa using pr) ho (by omega) hoc (.refl h7)
 have y8:=y7.trans x8
 obtain ⟨f1,f2,f3⟩:=pr.compose g1 g2 wi
 obtain ⟨_,i6O⟩:=pr.okX
 have lO:=ho.len
 refine zc ?_
 refine br (40 < (on : Int)) (by rw [e_gtr hA,e_ofNat hA]) (fun q => ?_) (fun q => ?_) <;> refine zc ?_
 ·exact hQ h8 none 0 0 [] 4 (none' _) nil64 (f1 (by omega)) y8
 refine rcom_21 hA (y8.lowOK hlow) ho i6O (by omega) (fun h9 e kn K ns x9 => ?_) (fun h9 kn K s x9 => ?_) on 0 h8 (by omega) (by omega) (by omega) (fun j j0 j1 => by omega) (.refl h8)
 ·refine zc ?_
  obtain ⟨i,i0,i1,ns⟩:=ns
  exact hQ h9 none 0 0 [] 16 (none' _) nil64 (f2 (by omega) i i0 i1 ns) (y8.trans x9)
 ·refine zc ?_
  exact hQ h9 oa on oc O 0 (ho.ext x9) i6O (f3 (by omega) s) (y8.trans x9)
