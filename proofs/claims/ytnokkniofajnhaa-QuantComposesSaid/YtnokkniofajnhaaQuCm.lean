import Derived.Test.YtnokkniofajnhaaQuMi
import Derived.Test.YtnokkniofajnhaaQuK
set_option linter.unusedSimpArgs false
set_option linter.unusedVariables false
namespace Go.Proofs.Ytnokkniofajnhaa
open Go.Sim
set_option maxRecDepth 100000
def KnotAt (l m : List Kr) (q : Rat) (k : Kr) : Prop:=∃ x y,ValQ (turnK (toK l)) q x ∧ ValQ (toK m) q y ∧ isF k.xn k.xd x ∧ isF k.yn k.yd y
theorem KnotAt.uniq {l m : List Kr} (g1 : GoodL l) (g2 : GoodL m) {q : Rat} {k k' : Kr} (h : KnotAt l m q k) (h' : KnotAt l m q k') : k = k':=by
 obtain ⟨x,y,a1,a2,⟨a3,a4,_⟩,a5,a6,_⟩:=h
 obtain ⟨x',y',b1,b2,⟨b3,b4,_⟩,b5,b6,_⟩:=h'
 obtain rfl:=a1.uniq g1.corr.turn b1
 obtain rfl:=a2.uniq g2.corr b2
 cases k;cases k'
 simp only at *
 rw [a3,a4,a5,a6,b3,b4,b5,b6]
def MidIs (l m : List Kr) (W : List F2) : Prop:=StrictOn W 0 W.length ∧ ∀ x,x ∈ W ↔ x ∈ midList l m
def Within (l m : List Kr) : Prop:=kx (toK m) 0 ≤ ky (toK l) 0 ∧ ky (toK l) (l.length - 1) ≤ kx (toK m) (m.length - 1)
def ComposeIs (l m : List Kr) (out : List Kr) (e : Int) : Prop:=
 (¬ GoodL l ∧ CheckIs l e ∧ out = []) ∨ (GoodL l ∧ ¬ GoodL m ∧ CheckIs m e ∧ out = []) ∨ (GoodL l ∧ GoodL m ∧ ¬ Within l m ∧ e = 6 ∧ out = []) ∨
 (GoodL l ∧ GoodL m ∧ Within l m ∧ ∃ W,MidIs l m W ∧ ((40 < W.length ∧ e = 4 ∧ out = []) ∨ (W.length ≤ 40 ∧ (∃ (i : Int) (k : Kr),0 ≤ i ∧ i < W.length ∧ KnotAt l m (gt W i).q k ∧ ¬ smallK k) ∧ e = 16 ∧ out = []) ∨
  (W.length ≤ 40 ∧ e = 0 ∧ out.length = W.length ∧ ∀ i : Int,0 ≤ i → i < W.length → KnotAt l m (gt W i).q (gt out i) ∧ smallK (gt out i))))
structure MidF (l m : List Kr) (x : F2) : Prop where
 ok : okF x.n x.d
 b : bnd x.q 100 100
 d0 : ky (toK l) 0 ≤ x.q
 d1 : x.q ≤ ky (toK l) (l.length - 1)
theorem midF {l m : List Kr} (g1 : GoodL l) (g2 : GoodL m) {x : F2} (hx : x ∈ midList l m) : MidF l m x:=by
 have two:=g1.two
 have e0 : ky (toK l) 0 = (gt l 0).yF.q:=(toK_at (Int.le_refl _) (by omega)).2
 have e1 : ky (toK l) (l.length - 1) = (gt l (l.length - 1)).yF.q:=(toK_at (by omega) (by omega)).2
 unfold midList at hx
 rcases List.mem_append.1 hx with q | q
 ·obtain ⟨y,hy,rfl⟩:=List.mem_map.1 q
  obtain ⟨i,i0,i1,rfl⟩:=mem_gt hy
  have s:=(g1.small i i0 i1).2
  have ei : ky (toK l) i = (gt l i).yF.q:=(toK_at i0 i1).2
  refine ⟨s.1,s.bnd,?_,?_⟩
  ·rw [← ei]
   by_cases z : i = 0
   ·rw [z];exact Rat.le_refl
   ·exact Rat.le_of_lt (g1.corr.mono (Int.le_refl 0) (by omega) (by rw [toK_len];exact i1)).2
  ·rw [← ei]
   by_cases z : i = l.length - 1
   ·rw [z];exact Rat.le_refl
   ·exact Rat.le_of_lt (g1.corr.mono i0 (by omega) (by rw [toK_len];omega)).2
 ·obtain ⟨y,hy,rfl⟩:=List.mem_map.1 q
  obtain ⟨h1,h2⟩:=List.mem_filter.1 hy
  obtain ⟨i,i0,i1,rfl⟩:=mem_gt h1
  have s:=(g2.small i i0 i1).1
  unfold inRange at h2
  rw [decide_eq_true_iff] at h2
  exact ⟨s.1,s.bnd,by rw [e0];exact h2.1,by rw [e1];exact h2.2⟩
theorem bnd.wide {q : Rat} (h : bnd q 100 100) : bnd q 10000 10000:=by unfold bnd at *;omega
variable {F : Prims} {call head arith a0 b0 c0 f0 g0 k0 l0 m0 ofNat n0 place o0 nz p0 rd wr push next q0 nat zeros r0 s0 u0 v0 x0 y0 z0 l1 m1 n1 u1 lowered bump d2 j2 lt ne l2 m2 t2 yn u2 w2 d3 f3 g3 j3 : _} (hA : AP F ⟨call,head,arith,a0,b0,c0,f0,g0,k0,l0,m0,ofNat,n0,place,o0,nz,p0,rd,wr,push,next,q0,nat,zeros,r0,s0,u0,v0,x0,y0,z0,l1,m1,n1,u1,lowered,bump,d2,j2,lt,ne,l2,m2,t2,yn,u2,w2,d3,f3,g3,j3⟩)
include hA
theorem com_15 {h0 : AHeap} (hlow : h0.low ≤ h0.next) {a2 : Option Addr} {n n2 c2 rb kb mb k c3 : Nat} {N : Int} (hN : N = k) {l m : List Kr} {W : List F2} (hn : n = l.length) (g1 : GoodL l) (hm : Ks h0 a2 n2 m) (hi2 : allI64 m) (g2 : GoodL m) (hk : Ks h0 (some ⟨kb,0,none⟩) n (turnR l)) (hik : allI64 (turnR l)) (hW : Rows F2.cells 2 h0 (some ⟨mb,0,none⟩) k W) (hmid : ∀ x ∈ W,MidF l m x) (hw : Within l m) (k40 : k ≤ 40) (hrb : h0.next ≤ rb) {Q : Exit → SS → Prop}
  (hQ1 : ∀ h' e kn K,(∃ (i : Int) (k : Kr),0 ≤ i ∧ i < W.length ∧ KnotAt l m (gt W i).q k ∧ ¬ smallK k) → Ext h0 h' → Q .ret ⟨(5,.int .i64 16) :: (4,.slice none 0 0) :: e,kn,K,h'⟩)
  (hQ : ∀ h' kn r,Own h' rb 4 (r.flatMap Kr.cells) → r.length = k → rb < h'.next → Ext h0 h' → (∀ i : Int,0 ≤ i → i < k → KnotAt l m (gt W i).q (gt r i) ∧ smallK (gt r i)) → Q (.exit 0) ⟨[(10,.slice (some ⟨rb,0,none⟩) k k)],kn,[],h'⟩) :
  ∀ (w : Nat) (i : Int) (h : AHeap) (r : List Kr),(k - i).toNat ≤ w → 0 ≤ i → i ≤ k → r.length = k → (∀ j : Int,0 ≤ j → j < i → KnotAt l m (gt W j).q (gt r j) ∧ smallK (gt r j)) → Own h rb 4 (r.flatMap Kr.cells) → rb < h.next → Ext h0 h →
   head 17 15 28 ⟨[(1,.slice a2 n2 c2),(9,.slice (some ⟨kb,0,none⟩) n n),(10,.slice (some ⟨rb,0,none⟩) k k),(65,.slice (some ⟨mb,0,none⟩) k c3),(66,.int .i64 N),(67,.int .i64 i)],28,[],h⟩ Q:=by
 have hlW:=hW.len
 have lenm:=hm.len
 intro w
 induction w with
 | zero =>
  intro i h r hw' i0 i1 hr hall ho hb he
  refine hA.roundR Try.func17 r17_ok (zc ?_)
  refine br (i < N) (by rw [e_lss hA]) (fun c1 => by omega) (fun c1 => ?_) <;> refine zc ?_
  exact hQ h _ r ho hr hb he (fun j j0 j1 => hall j j0 (by omega))
 | succ w ih =>
 intro i h r hw' i0 i1 hr hall ho hb he
 by_cases ci : i < k
 rotate_left
 ·refine hA.roundR Try.func17 r17_ok (zc ?_)
  refine br (i < N) (by rw [e_lss hA]) (fun c1 => by omega) (fun c1 => ?_) <;> refine zc ?_
  exact hQ h _ r ho hr hb he (fun j j0 j1 => hall j j0 (by omega))
 have M:=hmid (gt W i) (gt_mem _ i0 (by omega))
 obtain ⟨bb,oo,ee,_,h3⟩:=(hW.ext he).at (i:=i) i0 ci
 cases ee
 have rr : h.readG ⟨mb,0 + i.toNat * 2,none⟩ 2 = some [.int .i64 (gt W i).n,.int .i64 (gt W i).d]:=h3 0 2 (by omega) (by omega)
 have q1:=rd_ok hA rr
 have hx : isF (gt W i).n (gt W i).d (gt W i).q:=M.ok.is
 generalize (gt W i).n = xn at *
 generalize (gt W i).d = xd at *
 have two:=g1.two
 have e2 : arith .add .i64 i 1 = i + 1:=add64 hA (by omega) (by omega)
 have t0:=(turn_x (t:=toK l) (i:=0) (Int.le_refl _) (by rw [toK_len];omega)).1
 have t1:=(turn_x (t:=toK l) (i:=n - 1) (by omega) (by rw [toK_len];omega)).1
 refine hA.roundR Try.func17 r17_ok (zc ?_)
 refine br (i < N) (by rw [e_lss hA]) (fun c1 => ?_) (fun c1 => by omega) <;> refine zc ?_
 refine zq ?_
 refine corrected_ok hA (he.lowOK hlow) (hk.ext he) hik g1.turn hx M.b.wide (by rw [toK_turn,t0];exact M.d0) (by rw [toK_turn,t1,hn];exact M.d1) (fun u v q h1 f1 v1 b1 x1 => ⟨_,_,_,rfl,?_⟩)
 have y1:=he.trans x1
 rw [toK_turn] at v1
 refine zq ?_
 refine br ((0 : Int) ≠ 0) (by rw [e_neq hA]) (fun z => absurd rfl z) (fun _ => ?_) <;> refine zc ?_
 refine zq ?_
 have w0 : kx (toK m) 0 ≤ (gt W i).q:=Rat.le_trans hw.1 M.d0
 have w1 : (gt W i).q ≤ kx (toK m) (n2 - 1):=by rw [← lenm];exact Rat.le_trans M.d1 hw.2
 refine corrected_ok hA (y1.lowOK hlow) (hm.ext y1) hi2 g2 hx M.b.wide w0 w1 (fun u' v' q' h2 f2 v2 b2 x2 => ⟨_,_,_,rfl,?_⟩)
 have y2:=y1.trans x2
 refine zq ?_
 refine br ((0 : Int) ≠ 0) (by rw [e_neq hA]) (fun z => absurd rfl z) (fun _ => ?_) <;> refine zc ?_
 refine zq ?_
 have kat : KnotAt l m (gt W i).q ⟨u,v,u',v'⟩:=⟨q,q',v1,v2,f1,f2⟩
 have bad : ¬ smallK ⟨u,v,u',v'⟩ → ∃ (i : Int) (k : Kr),0 ≤ i ∧ i < W.length ∧ KnotAt l m (gt W i).q k ∧ ¬ smallK k:=fun z => ⟨i,_,i0,by omega,kat,z⟩
 refine small_ok' hA (y2.lowOK hlow) f1.i64n f1.i64d (by omega) (fun r1 h4 k4 x4 => ⟨_,rfl,?_⟩)
 have y4:=y2.trans x4
 refine zq ?_
 refine br (r1 = false) (by rw [e_bnot hA];cases r1 <;> rfl) (fun cr => ?_) (fun cr => ?_) <;> refine zc ?_
 ·exact hQ1 h4 _ _ _ (bad (fun z => by have:=k4.2 z.1;rw [cr] at this;cases this)) y4
 have s1 : smallF 100 u v:=k4.1 (by cases r1 with | true => rfl | false => exact absurd rfl cr)
 refine zq ?_
 refine small_ok' hA (y4.lowOK hlow) f2.i64n f2.i64d (by omega) (fun r2 h5 k5 x5 => ⟨_,rfl,?_⟩)
 have y5:=y4.trans x5
 refine zq ?_
 refine br (r2 = false) (by rw [e_bnot hA];cases r2 <;> rfl) (fun cr => ?_) (fun cr => ?_) <;> refine zc ?_
 ·exact hQ1 h5 _ _ _ (bad (fun z => by have:=k5.2 z.2;rw [cr] at this;cases this)) y5
 have s2 : smallF 100 u' v':=k5.1 (by cases r2 with | true => rfl | false => exact absurd rfl cr)
 have z5:=x1.trans (x2.trans (x4.trans x5))
 have o5:=ho.ext z5 hb
 obtain ⟨h',p1,p2,p3⟩:=Own.setRow o5 kr_len (i:=i.toNat) (by omega) ⟨u,v,u',v'⟩
 have p4 : wr h5 rb (place 0 i 4) [.int .i64 u,.int .i64 v,.int .i64 u',.int .i64 v'] h':=by
  rw [e_wr hA,e_place hA,Nat.zero_add]
  exact p1
 refine zq ?_
 rw [e2]
 refine ih (i + 1) h' _ (by omega) (by omega) (by omega) (by rw [List.length_set];exact hr) (fun j j0 j1 => ?_) p2 (by rw [p3.next];exact Nat.lt_of_lt_of_le hb z5.next) (p3.ext y5 hrb)
 rw [gt_set r i0 j0 (by omega)]
 split
 ·rename_i e;rw [e];exact ⟨kat,s1,s2⟩
 ·exact hall j j0 (by omega)
theorem compose_ok {h : AHeap} (hlow : h.low ≤ h.next) {a a2 : Option Addr} {n c n2 c2 : Nat} {l m : List Kr} (hl : Ks h a n l) (hi : allI64 l) (hm : Ks h a2 n2 m) (hi2 : allI64 m) {Q : Value → AHeap → Prop}
  (hQ : ∀ h' a' k c' out e,Ks h' a' k out → allI64 out → ComposeIs l m out e → Ext h h' → Q (.tuple #[.slice a' k c',.int .i64 e]) h') : call 17 [.slice a n c,.slice a2 n2 c2] h Q:=by
 have hlen:=hl.len
 have hlen2:=hm.len
 have none' : ∀ h',Ks h' none 0 []:=fun h' => Rows.nil h' kr_len (by omega)
 have nil64 : allI64 []:=fun i i0 i1 => by simp at i1;omega
 refine hA.bodyR Try.func17 r17_ok (hA.alike _ _ _ rfl) hlow (zc ?_)
 refine qcheck_ok hA hlow hl hi (fun e1 h1 k1 x1 => ⟨_,rfl,?_⟩)
 refine zc ?_
 refine br (e1 ≠ 0) (by rw [e_neq hA]) (fun z1 => ?_) (fun z1 => ?_) <;> refine zc ?_
 ·exact hQ _ _ _ _ _ _ (none' _) nil64 (.inl ⟨fun g => z1 (k1.good.2 g),k1,rfl⟩) x1
 have g1 : GoodL l:=k1.good.1 (by omega)
 refine qcheck_ok hA (x1.lowOK hlow) (hm.ext x1) hi2 (fun e2 h2 k2 x2 => ⟨_,rfl,?_⟩)
 have y2:=x1.trans x2
 refine zc ?_
 refine br (e2 ≠ 0) (by rw [e_neq hA]) (fun z2 => ?_) (fun z2 => ?_) <;> refine zc ?_
 ·exact hQ _ _ _ _ _ _ (none' _) nil64 (.inr (.inl ⟨g1,fun g => z2 (k2.good.2 g),k2,rfl⟩)) y2
 have g2 : GoodL m:=k2.good.1 (by omega)
 have two:=g1.two
 have two2:=g2.two
 have most:=g1.most
 have most2:=g2.most
 obtain ⟨b,o,rfl⟩:=ks_some hl (by omega)
 obtain ⟨b2,o2,rfl⟩:=ks_some hm (by omega)
 obtain ⟨h9,hh9⟩ : ∃ z,z = bump h2 28:=⟨_,rfl⟩
 have e9 : Ext h h9:=by rw [hh9];exact y2.trans (ext_bump hA _ _)
 have l9:=e9.lowOK hlow
 rw [← hh9]
 obtain ⟨_,p1,p2,p3,p4,hp,_,_,_,_,_,_,r1⟩:=ks_in (hl.ext e9) hi (i:=0) (by omega) (by omega)
 obtain ⟨_,s1,s2,s3,s4,hs,_,_,_,_,_,r2,_⟩:=ks_in (hm.ext e9) hi2 (i:=0) (by omega) (by omega)
 have q1:=rd_fld hA r1
 have q2:=rd_fld hA r2
 have i1:=(g1.is (i:=0) (by omega) (by omega)).2
 have i2:=(g2.is (i:=0) (by omega) (by omega)).1
 rw [hp] at i1
 rw [hs] at i2
 refine zq ?_
 refine qorder_ok hA (low_fresh hA h9) i1 i2 (fun u h10 hu x10 => ⟨_,rfl,?_⟩)
 refine zc ?_
 obtain ⟨h11,hh11⟩ : ∃ z,z = lowered h9 h10:=⟨_,rfl⟩
 have x11 : Ext h9 h11:=by rw [hh11];exact ext_low hA l9 (.refl h9) x10
 have e11:=e9.trans x11
 rw [← hh11]
 refine br (u < 0) (by rw [e_lss hA]) (fun cu => ?_) (fun cu => ?_) <;> refine zc ?_
 ·refine zq ?_
  rw [hu] at cu
  exact hQ _ _ _ _ _ _ (none' _) nil64 (.inr (.inr (.inl ⟨g1,g2,fun w => Rat.not_lt.2 w.1 (cmpF_lt.1 cu),rfl,rfl⟩))) e11
 obtain ⟨n',hn'⟩ : ∃ z,z = (n : Int) - 1:=⟨_,rfl⟩
 obtain ⟨n2',hn2'⟩ : ∃ z,z = (n2 : Int) - 1:=⟨_,rfl⟩
 have f1 : arith .sub .i64 (ofNat n) 1 = n':=by rw [e_ofNat hA,hn'];exact sub64 hA (by omega) (by omega)
 have f2 : arith .sub .i64 (ofNat n2) 1 = n2':=by rw [e_ofNat hA,hn2'];exact sub64 hA (by omega) (by omega)
 obtain ⟨_,p1',p2',p3',p4',hp',_,_,_,_,_,_,r3⟩:=ks_in (hl.ext e11) hi (i:=n') (by omega) (by omega)
 obtain ⟨_,s1',s2',s3',s4',hs',_,_,_,_,_,r4,_⟩:=ks_in (hm.ext e11) hi2 (i:=n2') (by omega) (by omega)
 have q3:=rd_fld hA r3
 have q4:=rd_fld hA r4
 have i3:=(g1.is (i:=n') (by omega) (by omega)).2
 have i4:=(g2.is (i:=n2') (by omega) (by omega)).1
 rw [hp'] at i3
 rw [hs'] at i4
 (refine zq ?_;repeat ((first | rw [f1] | rw [f2]);refine zq ?_))
 refine qorder_ok hA (low_fresh hA h11) i3 i4 (fun v h12 hv x12 => ⟨_,rfl,?_⟩)
 refine zc ?_
 obtain ⟨h13,hh13⟩ : ∃ z,z = lowered h11 h12:=⟨_,rfl⟩
 have x13 : Ext h11 h13:=by rw [hh13];exact ext_low hA (e11.lowOK hlow) (.refl h11) x12
 have e13:=e11.trans x13
 rw [← hh13]
 refine br (0 < v) (by rw [e_gtr hA]) (fun cv => ?_) (fun cv => ?_) <;> refine zc ?_
 ·rw [hv] at cv
  exact hQ _ _ _ _ _ _ (none' _) nil64 (.inr (.inr (.inl ⟨g1,g2,fun w => Rat.not_lt.2 (by have:=w.2;rwa [hlen,hlen2,← hn',← hn2'] at this) (cmpF_gt.1 cv),rfl,rfl⟩))) e13
 have hw : Within l m:=by
  rw [hu] at cu
  rw [hv] at cv
  refine ⟨Rat.not_lt.1 (fun z => cu (cmpF_lt.2 z)),?_⟩
  rw [hlen,hlen2,← hn',← hn2']
  exact Rat.not_lt.1 (fun z => cv (cmpF_gt.2 z))
 refine zq ?_
 refine middles_ok hA (e13.lowOK hlow) (hl.ext e13) hi (hm.ext e13) hi2 g1 g2 (fun h14 mb k c' W ro x14 st mem => ⟨_,_,_,rfl,?_⟩)
 have e14:=e13.trans x14
 have hWl:=ro.len
 have mid : MidIs l m W:=⟨by rw [hWl];exact st,mem⟩
 refine zc ?_
 refine br ((40 : Int) < k) (by rw [e_gtr hA,e_ofNat hA]) (fun ck => ?_) (fun ck => ?_) <;> refine zc ?_
 ·exact hQ _ _ _ _ _ _ (none' _) nil64 (.inr (.inr (.inr ⟨g1,g2,hw,W,mid,.inl ⟨by omega,rfl,rfl⟩⟩))) e14
 refine inv_ok hA (e14.lowOK hlow) (hl.ext e14) hi (by omega) (fun kb h15 ok1 kb1 kb2 x15 => ⟨_,_,_,rfl,?_⟩)
 have e15:=e14.trans x15
 have en : ofNat k = (k : Int):=e_ofNat hA k
 refine zc ?_
 rw [en]
 refine ⟨mk_ok hA (by omega) (by omega) (by omega),?_⟩
 refine zc ?_
 have e2 : nat (Int.ofNat k) = k:=by rw [e_nat hA];rfl
 have e3 : zeros [Value.int .i64 0,Value.int .i64 0,Value.int .i64 0,Value.int .i64 0] (Int.ofNat k) = (List.replicate k (default : Kr)).flatMap Kr.cells:=by rw [e_zeros hA];exact copies_kr k
 rw [e2,e3,e_next hA,e_push hA]
 have x16 : Ext h15 (h15.push 4 ((List.replicate k (default : Kr)).flatMap Kr.cells)):=.push _ _ _
 have o16:=Own.push h15 4 ((List.replicate k (default : Kr)).flatMap Kr.cells)
 have n16 : (h15.push 4 ((List.replicate k (default : Kr)).flatMap Kr.cells)).next = h15.next + 1:=rfl
 generalize h15.push 4 ((List.replicate k (default : Kr)).flatMap Kr.cells) = h16 at *
 obtain ⟨rb,hrb⟩ : ∃ z,z = h15.next:=⟨_,rfl⟩
 rw [← hrb] at o16 ⊢
 have kk : Ks h15 (some ⟨kb,0,none⟩) n (turnR l):=by
  have:=Own.rows ok1 kr_len (by omega) kb2
  rwa [turnR_len,hlen] at this
 rw [e_ofNat hA]
 refine com_15 hA (e15.lowOK hlow) rfl hlen.symm g1 (hm.ext e15) hi2 g2 kk hi.turn (ro.ext x15) (fun x hx => midF g1 g2 ((mem x).1 hx)) hw (by omega) (rb:=rb) (by omega) (fun h' e kn K bad x' => ?_) (fun h' kn r o1 o2 o3 x' all => ?_) k 0 h16 _ (by omega) (by omega) (by omega) (by simp) (fun j j0 j1 => by omega) o16 (by omega) x16
 ·refine zc ?_
  exact hQ _ _ _ _ _ _ (none' _) nil64 (.inr (.inr (.inr ⟨g1,g2,hw,W,mid,.inr (.inl ⟨by omega,bad,rfl,rfl⟩)⟩))) (e15.trans x')
 ·refine zc ?_
  have kr : Ks h' (some ⟨rb,0,none⟩) k r:=by
   have:=Own.rows o1 kr_len (by omega) o3
   rwa [o2] at this
  refine hQ _ _ _ _ r _ kr (fun i i0 i1 => ?_) (.inr (.inr (.inr ⟨g1,g2,hw,W,mid,.inr (.inr ⟨by omega,rfl,by omega,fun i i0 i1 => all i i0 (by omega)⟩)⟩))) (e15.trans x')
  obtain ⟨_,s1,s2⟩:=all i i0 (by omega)
  exact ⟨s1.1.is.i64n,s1.1.is.i64d,s2.1.is.i64n,s2.1.is.i64d⟩
