import Derived.Test.YtkbgkjlgnmlghaaCaR
set_option linter.unusedSimpArgs false
set_option linter.unusedVariables false
namespace Go.Proofs.Ytkbgkjlgnmlghaa
open Go.Sim
set_option linter.unusedVariables false
set_option maxRecDepth 100000
def places (n : Int) (l : List Sk) (i : Int) : List (Pk × Int):=(upTo i).flatMap fun j => (partsR n (gt l j) n).map fun e => (e,j)
theorem contrib_places (n : Int) (l : List Sk) (v : List Ck) (i : Int) : contrib n l v i = (places n l i).map fun p => (p.1,gt v p.2):=by
 unfold contrib places
 rw [List.map_flatMap]
 congr 1
 funext j
 rw [List.map_map]
 rfl
noncomputable def cv (g : Gd) (y x : Int) : Cq:=(gt (gt g y) x).val
theorem step_cv {n : Nat} {g g' : Gd} {c : Pk × Ck} (h : SqG n g) (hx : 0 ≤ c.1.x ∧ c.1.x < n) (hy : 0 ≤ c.1.y ∧ c.1.y < n) (e : gridStep g c = some g') {y x : Int} (y0 : 0 ≤ y) (y1 : y < n) (x0 : 0 ≤ x) (x1 : x < n) :
  cv g' y x = if y = c.1.y ∧ x = c.1.x then (cv g y x).add ((Cq.real c.1.w).mul c.2.val) else cv g y x:=by
 unfold gridStep at e
 rw [Option.map_eq_some_iff] at e
 obtain ⟨k,hk,rfl⟩:=e
 have ky:=h.len
 unfold cv
 rw [gt_set g hy.1 y0 (by omega)]
 by_cases e1 : y = c.1.y
 ·rw [if_pos e1,gt_set _ hx.1 x0 (by rw [h.row _ hy.1 hy.2];exact hx.2)]
  by_cases e2 : x = c.1.x
  ·rw [if_pos e2,if_pos ⟨e1,e2⟩,(plusF_ok hk).2,e1,e2]
  ·rw [if_neg e2,if_neg (fun q => e2 q.2),e1]
 ·rw [if_neg e1,if_neg (fun q => e1 q.1)]
def Lin (n : Nat) (c : Cq) (g1 g2 g3 : Gd) : Prop:=∀ y x : Int,0 ≤ y → y < n → 0 ≤ x → x < n → cv g3 y x = (cv g1 y x).add (c.mul (cv g2 y x))
theorem lin_run {n : Nat} {c : Cq} {v1 v2 v3 : List Ck} {N : Nat} (hv : ∀ j : Int,0 ≤ j → j < N → (gt v3 j).val = (gt v1 j).val.add (c.mul (gt v2 j).val)) : ∀ (B : List (Pk × Int)),(∀ p,p ∈ B → (0 ≤ p.1.x ∧ p.1.x < n) ∧ (0 ≤ p.1.y ∧ p.1.y < n) ∧ 0 ≤ p.2 ∧ p.2 < N) →
  ∀ g1 g2 g3 g1' g2' g3' : Gd,SqG n g1 → SqG n g2 → SqG n g3 → Lin n c g1 g2 g3 → run (B.map fun p => (p.1,gt v1 p.2)) g1 = some g1' → run (B.map fun p => (p.1,gt v2 p.2)) g2 = some g2' → run (B.map fun p => (p.1,gt v3 p.2)) g3 = some g3' → Lin n c g1' g2' g3'
 | [],_,g1,g2,g3,_,_,_,_,_,_,h,r1,r2,r3 => by
  cases r1;cases r2;cases r3;exact h
 | p :: B,hB,g1,g2,g3,g1',g2',g3',s1,s2,s3,h,r1,r2,r3 => by
  have cons : ∀ (q : Pk × Ck) (l : List (Pk × Ck)) (g : Gd),run (q :: l) g = (gridStep g q).bind (run l):=fun q l g => by
   have:=run_append [q] l g
   rw [run_one] at this
   exact this
  rw [List.map_cons,cons] at r1 r2 r3
  obtain ⟨k1,a1,b1⟩:=Option.bind_eq_some_iff.1 r1
  obtain ⟨k2,a2,b2⟩:=Option.bind_eq_some_iff.1 r2
  obtain ⟨k3,a3,b3⟩:=Option.bind_eq_some_iff.1 r3
  obtain ⟨px,py,pj0,pj1⟩:=hB p (by simp)
  refine lin_run hv B (fun q hq => hB q (List.mem_cons_of_mem _ hq)) k1 k2 k3 g1' g2' g3' (s1.step px py a1) (s2.step px py a2) (s3.step px py a3) (fun y x y0 y1 x0 x1 => ?_) b1 b2 b3
  have hh:=h y x y0 y1 x0 x1
  rw [step_cv s1 px py a1 y0 y1 x0 x1,step_cv s2 px py a2 y0 y1 x0 x1,step_cv s3 px py a3 y0 y1 x0 x1]
  split
  ·rw [hh,hv p.2 pj0 pj1]
   refine Cq.ext ?_ ?_
   ·simp only [Cq.add,Cq.mul,Cq.real];grind
   ·simp only [Cq.add,Cq.mul,Cq.real];grind
  ·exact hh
theorem zeroK_val : zeroK.val = Cq.zero:=by
 refine Cq.ext ?_ ?_ <;> simp [Ck.val,zeroK,Cq.zero,Rat.div_def]
theorem lin_zero (n : Nat) (c : Cq) : Lin n c (zeroG n) (zeroG n) (zeroG n):=fun y x y0 y1 x0 x1 => by
 have : cv (zeroG n) y x = Cq.zero:=by
  unfold cv zeroG
  rw [gt_replicate n _ y0 y1,gt_replicate n _ x0 x1]
  exact zeroK_val
 rw [this]
 refine Cq.ext ?_ ?_
 ·simp only [Cq.add,Cq.mul,Cq.zero];grind
 ·simp only [Cq.add,Cq.mul,Cq.zero];grind
end Go.Proofs.Ytkbgkjlgnmlghaa
namespace Go.Proofs.Ytkbgkjlgnmlghaa
open Go.Sim
set_option linter.unusedVariables false
set_option maxRecDepth 100000
theorem out_cases {f : Cq → Cq → Cq} {a b d a' b' d' r s t e : Int} {z w : Cq} (h1 : isC a b d z) (h2 : isC a' b' d' w) (h : OpC f a b d a' b' d' r s t e) : (e = 0 ∧ isC r s t (f z w)) ∨ e = 16:=by
 rcases h with ⟨q,_⟩ | ⟨z',w',k1,k2,h⟩
 ·exact absurd ⟨⟨_,h1⟩,⟨_,h2⟩⟩ q
 ·have e1 : z' = z:=by have:=isC.val (k:=⟨a,b,d⟩) k1;have:=isC.val (k:=⟨a,b,d⟩) h1;simp_all
  have e2 : w' = w:=by have:=isC.val (k:=⟨a',b',d'⟩) k2;have:=isC.val (k:=⟨a',b',d'⟩) h2;simp_all
  rw [e1,e2] at h
  rcases h with ⟨h,e0⟩ | ⟨_,_,_,_,e0⟩
  ·exact .inl ⟨e0,h⟩
  ·exact .inr e0
theorem gt_append_left {α : Type} [Inhabited α] (l r : List α) {i : Int} (h0 : 0 ≤ i) (h : i < l.length) : gt (l ++ r) i = gt l i:=by
 unfold gt;rw [List.getD_eq_getElem?_getD,List.getD_eq_getElem?_getD,List.getElem?_append_left (by omega)]
theorem gt_append_at {α : Type} [Inhabited α] (l : List α) (x : α) {i : Int} (h : i = l.length) : gt (l ++ [x]) i = x:=by
 unfold gt;rw [List.getD_eq_getElem?_getD,h,Int.toNat_natCast,List.getElem?_concat_length];rfl
def SumL (c : Cq) (v1 v2 Z : List Ck) (i : Int) : Prop:=(Z.length : Int) = i ∧ (∀ j : Int,0 ≤ j → j < i → (gt Z j).val = (gt v1 j).val.add (c.mul (gt v2 j).val) ∧ (gt Z j).ok)
variable {F : Prims} {call head arith cmp scmp bnot bsame conv neg imax imin ofNat slen place inR nz geZ rd wr push next mkOK nat zeros sadd eqAgg cut slc sslc strAt part app cpy putAt fresh lowered bump wrote addN lt ne fpAll brk yn rng mget mput mnew bytes clr : _} (hA : AP F ⟨call,head,arith,cmp,scmp,bnot,bsame,conv,neg,imax,imin,ofNat,slen,place,inR,nz,geZ,rd,wr,push,next,mkOK,nat,zeros,sadd,eqAgg,cut,slc,sslc,strAt,part,app,cpy,putAt,fresh,lowered,bump,wrote,addN,lt,ne,fpAll,brk,yn,rng,mget,mput,mnew,bytes,clr⟩)
include hA
set_option maxHeartbeats 1000000 in
theorem lin_loop {h0 : AHeap} (hlow : h0.low ≤ h0.next) {n : Int} {la va wa : Option Addr} {N lc vc wc : Nat} {v w : List Ck} (hv : Cs h0 va N v) (hw : Cs h0 wa N w) (okv : ValidL v) (okw : ValidL w) (hN : N ≤ 80) {ca cb cd : Int} {c : Cq} (hc : isC ca cb cd c) {Q : Exit → SS → Prop}
  (hbad : ∀ h' e kn K,Ext h0 h' → Q .ret ⟨(10,.bool true) :: e,kn,K,h'⟩)
  (hok : ∀ h' a cc Z,Cs h' a N Z → SumL c v w Z N → Ext h0 h' → Q (.exit 0) ⟨[(0,.int .i64 n),(1,.slice la N lc),(2,.slice va N vc),(3,.slice wa N wc),(9,.pointer (some ⟨0,0,some 0⟩)),(11,.bool true),(12,.slice a N cc)],1,[(0,[.int .i64 ca,.int .i64 cb,.int .i64 cd])],h'⟩) :
  ∀ (m : Nat) (k : Nat) (h : AHeap) (a : Option Addr) (cc : Nat) (Z : List Ck),N - k ≤ m → k ≤ N → Apd h 3 a k cc (Z.flatMap Ck.cells) → SumL c v w Z k → From h0.next a → Ext h0 h →
   head 4 6 1 ⟨[(0,.int .i64 n),(1,.slice la N lc),(2,.slice va N vc),(3,.slice wa N wc),(9,.pointer (some ⟨0,0,some 0⟩)),(11,.bool true),(12,.slice a k cc),(13,.int .i64 k)],1,[(0,[.int .i64 ca,.int .i64 cb,.int .i64 cd])],h⟩ Q:=by
 have lv:=hv.len
 have lw:=hw.len
 intro m
 induction m with
 | zero =>
  intro k h a cc Z hm hk t hz hf he
  obtain ⟨K,hK⟩ : ∃ z : Int,z = k:=⟨_,rfl⟩
  obtain rfl : k = N:=by omega
  rw [← hK]
  refine hA.roundR Try.func4 r4_ok (zc ?_)
  refine br (K < k) (by rw [e_lss hA,e_ofNat hA]) (fun q => by omega) (fun _ => ?_) <;> refine zc ?_
  exact hok h a cc Z ⟨t.cells,ck_len,by omega⟩ hz he
 | succ m ih =>
 intro k h a cc Z hm hk t hz hf he
 obtain ⟨K,hK⟩ : ∃ z : Int,z = k:=⟨_,rfl⟩
 by_cases ck : k < N
 rotate_left
 ·obtain rfl : k = N:=by omega
  rw [← hK]
  refine hA.roundR Try.func4 r4_ok (zc ?_)
  refine br (K < k) (by rw [e_lss hA,e_ofNat hA]) (fun q => by omega) (fun _ => ?_) <;> refine zc ?_
  exact hok h a cc Z ⟨t.cells,ck_len,by omega⟩ hz he
 rw [← hK]
 obtain ⟨h9,hh9⟩ : ∃ z,z = bump h 12:=⟨_,rfl⟩
 have x9 : Ext h h9:=by rw [hh9];exact ext_bump hA _ _
 have e9:=he.trans x9
 have l9:=e9.lowOK hlow
 obtain ⟨bw,ow,w1,w2,w3,ea,lw',hgw,rw1⟩:=cs_at (hw.ext e9) (i:=K) (by omega) (by omega)
 cases ea
 have rw1:=rd_ok hA rw1
 have kw:=okw K (by omega) (by omega)
 rw [hgw] at kw
 have kw : isC w1 w2 w3 (gt w K).val:=by rw [hgw];exact kw.is
 have kv:=(okv K (by omega) (by omega)).is
 refine hA.roundR Try.func4 r4_ok (zc ?_)
 refine br (K < N) (by rw [e_lss hA,e_ofNat hA]) (fun _ => ?_) (fun q => by omega) <;> refine zc ?_
 rw [← hh9]
 refine zq ?_
 refine cmul_ok hA (low_fresh hA h9) (fun r s t' e hz1 k1 ez => ⟨_,_,_,_,rfl,?_⟩)
 obtain ⟨hX,hhX⟩ : ∃ z,z = lowered h9 hz1:=⟨_,rfl⟩
 have eX : Ext h9 hX:=by rw [hhX];exact ext_low hA l9 (.refl h9) ez
 refine zc ?_
 rw [← hhX]
 refine ⟨ne_ok hA (by decide),wrote_no hA ez,?_⟩
 refine zc ?_
 have yX:=e9.trans eX
 have o1:=out_cases hc kw k1
 rcases o1 with ⟨rfl,p1⟩ | rfl
 rotate_left
 ·refine br True (by rw [e_neq hA];rfl) (fun _ => ?_) (fun q => absurd trivial q) <;> refine zc ?_
  rw [show cmp .eql 16 16 = true by rw [e_eql hA];rfl]
  exact hbad hX _ _ _ yX
 refine br False (by rw [e_neq hA];rfl) (fun q => q.elim) (fun _ => ?_) <;> refine zc ?_
 obtain ⟨hB,hhB⟩ : ∃ z,z = bump hX 12:=⟨_,rfl⟩
 have xB : Ext hX hB:=by rw [hhB];exact ext_bump hA _ _
 have eB:=yX.trans xB
 have lB:=eB.lowOK hlow
 obtain ⟨bv,ov,v1,v2,v3,ea,lv',hgv,rv1⟩:=cs_at (hv.ext eB) (i:=K) (by omega) (by omega)
 cases ea
 have rv1:=rd_ok hA rv1
 rw [hgv] at kv
 rw [← hhB]
 refine zq ?_
 refine cadd_ok hA (low_fresh hA hB) (fun r' s' t'' e' hz2 k2 ez2 => ⟨_,_,_,_,rfl,?_⟩)
 obtain ⟨hY,hhY⟩ : ∃ z,z = lowered hB hz2:=⟨_,rfl⟩
 have eY : Ext hB hY:=by rw [hhY];exact ext_low hA lB (.refl hB) ez2
 refine zc ?_
 rw [← hhY]
 refine ⟨ne_ok hA (by decide),wrote_no hA ez2,?_⟩
 refine zc ?_
 have yY:=eB.trans eY
 have o2:=out_cases kv p1 k2
 rcases o2 with ⟨rfl,p2⟩ | rfl
 rotate_left
 ·refine br True (by rw [e_neq hA];rfl) (fun _ => ?_) (fun q => absurd trivial q) <;> refine zc ?_
  rw [show cmp .eql 16 16 = true by rw [e_eql hA];rfl]
  exact hbad hY _ _ _ yY
 refine br False (by rw [e_neq hA];rfl) (fun q => q.elim) (fun _ => ?_) <;> refine zc ?_
 have tY:=t.ext (((x9.trans eX).trans xB).trans eY)
 refine appK_ok hA TC ck_len (by omega) ck_ok (v:=⟨r',s',t''⟩) tY (by omega) (fun b' h' ha hx hn' hb' hk' => ?_)
 generalize someCap 3 (k + 1) = cc' at *
 obtain ⟨k',hk2⟩ : ∃ z,z = k + 1:=⟨_,rfl⟩
 rw [← hk2] at ha ⊢
 refine zc ?_
 rw [add64 hA (by omega) (by omega),show K + 1 = ((k' : Nat) : Int) by omega]
 refine ih k' h' _ _ (Z ++ [⟨r',s',t''⟩]) (by omega) (by omega) ha ⟨by rw [List.length_append,List.length_singleton];have:=hz.1;omega,fun j j0 j1 => ?_⟩ (fun ad e => by cases e;have:=yY.next;simp only;omega) (hx h0 yY hf)
 have zl:=hz.1
 by_cases cj : j < k
 ·rw [gt_append_left Z _ j0 (by omega)]
  exact hz.2 j j0 cj
 ·obtain rfl : j = K:=by omega
  rw [gt_append_at Z _ (by omega),hgv]
  exact ⟨p2.val,_,p2⟩
end Go.Proofs.Ytkbgkjlgnmlghaa
