import Derived.Test.YtkbgkjlgnmlghaaCaQ
import Derived.Test.YtkbgkjlgnmlghaaCaK
set_option linter.unusedSimpArgs false
set_option linter.unusedVariables false
namespace Go.Proofs.Ytkbgkjlgnmlghaa
open Go.Sim
set_option linter.unusedVariables false
set_option maxRecDepth 100000
variable {F : Prims} {call head arith cmp scmp bnot bsame conv neg imax imin ofNat slen place inR nz geZ rd wr push next mkOK nat zeros sadd eqAgg cut slc sslc strAt part app cpy putAt fresh lowered bump wrote addN lt ne fpAll brk yn rng mget mput mnew bytes clr : _} (hA : AP F ⟨call,head,arith,cmp,scmp,bnot,bsame,conv,neg,imax,imin,ofNat,slen,place,inR,nz,geZ,rd,wr,push,next,mkOK,nat,zeros,sadd,eqAgg,cut,slc,sslc,strAt,part,app,cpy,putAt,fresh,lowered,bump,wrote,addN,lt,ne,fpAll,brk,yn,rng,mget,mput,mnew,bytes,clr⟩)
include hA
theorem lvalid_ok {h : AHeap} (hlow : h.low ≤ h.next) {n : Int} {a a' : Option Addr} {N M c c' : Nat} {l : List Sk} {v : List Ck} (hl : Sps h a N l) (hi : allS l) (hv : Cs h a' M v) {Q : Value → AHeap → Prop}
  (hQ : ∀ (r : Bool) h',(r = true → CheckS n l 0 ∧ N = M ∧ ValidL v ∧ N ≤ 40 ∧ M ≤ 80) → Ext h h' → Q (.bool r) h') : call 19 [.int .i64 n,.slice a N c,.slice a' M c'] h Q:=by
 refine hA.bodyR Try.func19 r19_ok (hA.alike _ _ _ rfl) hlow (zc ?_)
 refine great_ok hA hlow (fun r hr => ⟨_,rfl,?_⟩)
 cases r with
 | true =>
  refine zc ?_
  rw [show bnot true = false by rw [e_bnot hA];rfl]
  refine zc ?_
  exact hQ false h (fun q => by cases q) (.refl h)
 | false =>
 obtain ⟨hN,hM⟩:=hr rfl
 refine zc ?_
 rw [show bnot false = true by rw [e_bnot hA];rfl]
 refine zc ?_
 refine rkcheck_ok hA hlow hl hi (fun e h1 k1 x1 => ⟨_,rfl,?_⟩)
 refine zc ?_
 refine br (e = 0) (by rw [e_eql hA]) (fun c1 => ?_) (fun c1 => ?_) <;> refine zc ?_
 rotate_left
 ·exact hQ false h1 (fun q => by cases q) x1
 refine br ((N : Int) = M) (by rw [e_eql hA,e_ofNat hA,e_ofNat hA]) (fun c2 => ?_) (fun c2 => ?_) <;> refine zc ?_
 rotate_left
 ·exact hQ false h1 (fun q => by cases q) x1
 refine rvalid_ok hA (x1.lowOK hlow) (hv.ext x1) (by omega) (fun r h2 k2 x2 => ⟨_,rfl,?_⟩)
 refine zc ?_
 subst c1
 exact hQ r h2 (fun q => ⟨k1,by omega,k2.1 q,hN,hM⟩) (x1.trans x2)
theorem kgrid_is2 {h : AHeap} (hlow : h.low ≤ h.next) {n : Int} {a a' : Option Addr} {N M c c' : Nat} {l : List Sk} {v : List Ck} (hl : Sps h a N l) (hi : allS l) (hv : Cs h a' M v) (hM : M ≤ 100000) (hN : N ≤ 100000) {Q : Value → AHeap → Prop}
  (hQ : ∀ b k cap g e h',GridIs n l v g e → GridV h h' b k g → (e = 0 → (k : Int) = n) → Ext h h' → Q (.tuple #[.slice b k cap,.int .i64 e]) h') :
  call 12 [.int .i64 n,.slice a N c,.slice a' M c'] h Q:=
 kgrid_ok hA hlow hl hi hv hM hN (fun e h' k z x => hQ none 0 0 [] e h' k (.inl ⟨rfl,rfl,rfl⟩) (fun q => absurd q z) x) (fun oa bs g h' k sq t => hQ _ _ _ g 0 h' k (.inr ⟨oa,bs,rfl,by have:=k.n;omega,by have:=k.n;omega,sq,t⟩) (fun _ => by have:=k.n;omega) t.ext)
theorem sq_one {h0 w : AHeap} (hlow : h0.low ≤ h0.next) {oa cap : Nat} {bs : List Nat} {g : Gd} {n : Nat} (sq : SqG n g) (hn : n ≤ 8) (t : Grid2 Ck.cells 3 w h0 oa bs g) {Q : Exit → SS → Prop}
  (hok : ∀ h',Ext h0 h' → Q (.exit 0) ⟨[(0,.slice (some ⟨oa,0,none⟩) n cap)],0,[],h'⟩) :
  ∀ (m : Nat) (i : Int) (h : AHeap),(n - i).toNat ≤ m → 0 ≤ i → i ≤ n → Ext h0 h →
   head 23 4 0 ⟨[(0,.slice (some ⟨oa,0,none⟩) n cap),(3,.int .i64 i)],0,[],h⟩ Q:=by
 intro m
 induction m with
 | zero =>
  intro i h hm i0 i1 he
  refine hA.roundR Try.func23 r23_ok (zc ?_)
  refine br (i < n) (by rw [e_lss hA,e_ofNat hA]) (fun c1 => by omega) (fun c1 => ?_) <;> refine zc ?_
  exact hok h he
 | succ m ih =>
 intro i h hm i0 i1 he
 by_cases ci : i < n
 rotate_left
 ·refine hA.roundR Try.func23 r23_ok (zc ?_)
  refine br (i < n) (by rw [e_lss hA,e_ofNat hA]) (fun c1 => absurd c1 ci) (fun c1 => ?_) <;> refine zc ?_
  exact hok h he
 have t9:=t.more he
 have gl:=sq.len
 have ry:=sq.row i i0 ci
 obtain ⟨rb,hrb⟩ : ∃ z,z = bs.getD i.toNat 0:=⟨_,rfl⟩
 have d1:=t9.head i0 (by omega)
 unfold hdr at d1
 rw [ry,← hrb] at d1
 have d1:=rd_ok hA d1
 generalize hcap : someCap 3 n = cp at *
 refine hA.roundR Try.func23 r23_ok (zc ?_)
 refine br (i < n) (by rw [e_lss hA,e_ofNat hA]) (fun c1 => ?_) (fun c1 => absurd ci c1) <;> refine zc ?_
 refine zq ?_
 refine br ((n : Int) ≠ n) (by rw [e_neq hA,e_ofNat hA]) (fun q => absurd rfl q) (fun _ => ?_) <;> refine zc ?_
 rw [add64 hA (by omega) (by omega)]
 exact ih (i + 1) h (by omega) (by omega) (by omega) he
theorem sq_two {h0 w : AHeap} (hlow : h0.low ≤ h0.next) {oa cap : Nat} {bs : List Nat} {g : Gd} {n : Nat} (sq : SqG n g) (hn : n ≤ 8) (t : Grid2 Ck.cells 3 w h0 oa bs g) {Q : Exit → SS → Prop}
  (hok : ∀ h' kn,Ext h0 h' → Q (.exit 2) ⟨[],kn,[],h'⟩) :
  ∀ (m : Nat) (i : Int) (h : AHeap),(n - i).toNat ≤ m → 0 ≤ i → i ≤ n → Ext h0 h →
   head 23 9 0 ⟨[(0,.slice (some ⟨oa,0,none⟩) n cap),(4,.int .i64 i)],0,[],h⟩ Q:=by
 intro m
 induction m with
 | zero =>
  intro i h hm i0 i1 he
  refine hA.roundR Try.func23 r23_ok (zc ?_)
  refine br (i < n) (by rw [e_lss hA,e_ofNat hA]) (fun c1 => by omega) (fun c1 => ?_) <;> refine zc ?_
  exact hok h _ he
 | succ m ih =>
 intro i h hm i0 i1 he
 by_cases ci : i < n
 rotate_left
 ·refine hA.roundR Try.func23 r23_ok (zc ?_)
  refine br (i < n) (by rw [e_lss hA,e_ofNat hA]) (fun c1 => absurd c1 ci) (fun c1 => ?_) <;> refine zc ?_
  exact hok h _ he
 have t9:=t.more he
 have gl:=sq.len
 have ry:=sq.row i i0 ci
 obtain ⟨rb,hrb⟩ : ∃ z,z = bs.getD i.toNat 0:=⟨_,rfl⟩
 have d1:=t9.head i0 (by omega)
 unfold hdr at d1
 rw [ry,← hrb] at d1
 have d1:=rd_ok hA d1
 have w1 : Cs h (some ⟨rb,0,none⟩) n (gt g i):=by
  have:=Own.rows (t9.row i i0 (by omega)) t9.each (by omega) (t9.ltr _ (bs_mem (by have:=t.len;omega)))
  rwa [ry,← hrb] at this
 generalize hcap : someCap 3 n = cp at *
 refine hA.roundR Try.func23 r23_ok (zc ?_)
 refine br (i < n) (by rw [e_lss hA,e_ofNat hA]) (fun c1 => ?_) (fun c1 => absurd ci c1) <;> refine zc ?_
 refine zq ?_
 refine rvalid_ok hA (he.lowOK hlow) w1 (by omega) (fun r h2 k2 x2 => ⟨_,rfl,?_⟩)
 obtain rfl : r = true:=k2.2 (fun j j0 j1 => sq.ok i j i0 ci j0 (by rw [ry] at j1;exact j1))
 refine zc ?_
 rw [show bnot true = false by rw [e_bnot hA];rfl]
 refine zc ?_
 rw [add64 hA (by omega) (by omega)]
 exact ih (i + 1) h2 (by omega) (by omega) (by omega) (he.trans x2)
theorem square_ok {h w : AHeap} (hlow : h.low ≤ h.next) {a : Option Addr} {cap : Nat} {g : Gd} {n : Nat} (n2 : 2 ≤ n) (t : GridV w h a n g) {Q : Value → AHeap → Prop}
  (hQ : ∀ h',Ext h h' → Q (.int .i64 0) h') : call 23 [.slice a n cap] h Q:=by
 rcases t with ⟨rfl,rfl,rfl⟩ | ⟨oa,bs,rfl,k2,k8,sq,t⟩
 ·omega
 refine hA.bodyR Try.func23 r23_ok (hA.alike _ _ _ rfl) hlow (zc ?_)
 refine br ((n : Int) < 2) (by rw [e_lss hA,e_ofNat hA]) (fun q => by omega) (fun _ => ?_) <;> refine zc ?_
 refine br (8 < (n : Int)) (by rw [e_gtr hA,e_ofNat hA]) (fun q => by omega) (fun _ => ?_) <;> refine zc ?_
 refine sq_one hA hlow sq k8 t (fun h1 x1 => ?_) n 0 h (by omega) (by omega) (by omega) (.refl h)
 refine zc ?_
 refine sq_two hA (x1.lowOK hlow) sq k8 (t.more x1) (fun h2 kn x2 => ?_) n 0 h1 (by omega) (by omega) (by omega) (.refl h1)
 refine zc ?_
 exact hQ h2 (x1.trans x2)
end Go.Proofs.Ytkbgkjlgnmlghaa
namespace Go.Proofs.Ytkbgkjlgnmlghaa
open Go.Sim
set_option linter.unusedVariables false
set_option maxRecDepth 100000
theorem out_cases {f : Cq → Cq → Cq} {a b d a' b' d' r s t e : Int} {z w : Cq} (h1 : isC a b d z) (h2 : isC a' b' d' w) (h : OpC f a b d a' b' d' r s t e) : (e = 0 ∧ isC r s t (f z w)) ∨ e = 16:=by
 rcases h with ⟨q,_⟩ | ⟨z',w',k1,k2,h⟩
 ·exact absurd ⟨⟨_,h1⟩,⟨_,h2⟩⟩ q
 ·have e1 : z' = z:=by have:=isC.val (k:=⟨a,b,d⟩) k1;have:=isC.val (k:=⟨a,b,d⟩) h1;simp_all
  have e2 : w' = w:=by have:=isC.val (k:=⟨a',b',d'⟩) k2;have:=isC.val (k:=⟨a',b',d'⟩) h2;simp_all
  rw [e1,e2] at h
  rcases h with ⟨h,e0⟩ | ⟨_,_,_,_,e0⟩
  ·exact .inl ⟨e0,h⟩
  ·exact .inr e0
theorem gt_append_left {α : Type} [Inhabited α] (l r : List α) {i : Int} (h0 : 0 ≤ i) (h : i < l.length) : gt (l ++ r) i = gt l i:=by
 unfold gt;rw [List.getD_eq_getElem?_getD,List.getD_eq_getElem?_getD,List.getElem?_append_left (by omega)]
theorem gt_append_at {α : Type} [Inhabited α] (l : List α) (x : α) {i : Int} (h : i = l.length) : gt (l ++ [x]) i = x:=by
 unfold gt;rw [List.getD_eq_getElem?_getD,h,Int.toNat_natCast,List.getElem?_concat_length];rfl
def SumL (c : Cq) (v1 v2 Z : List Ck) (i : Int) : Prop:=(Z.length : Int) = i ∧ (∀ j : Int,0 ≤ j → j < i → (gt Z j).val = (gt v1 j).val.add (c.mul (gt v2 j).val) ∧ (gt Z j).ok)
variable {F : Prims} {call head arith cmp scmp bnot bsame conv neg imax imin ofNat slen place inR nz geZ rd wr push next mkOK nat zeros sadd eqAgg cut slc sslc strAt part app cpy putAt fresh lowered bump wrote addN lt ne fpAll brk yn rng mget mput mnew bytes clr : _} (hA : AP F ⟨call,head,arith,cmp,scmp,bnot,bsame,conv,neg,imax,imin,ofNat,slen,place,inR,nz,geZ,rd,wr,push,next,mkOK,nat,zeros,sadd,eqAgg,cut,slc,sslc,strAt,part,app,cpy,putAt,fresh,lowered,bump,wrote,addN,lt,ne,fpAll,brk,yn,rng,mget,mput,mnew,bytes,clr⟩)
include hA
set_option maxHeartbeats 1000000 in
theorem lin_loop {h0 : AHeap} (hlow : h0.low ≤ h0.next) {n : Int} {la va wa : Option Addr} {N lc vc wc : Nat} {v w : List Ck} (hv : Cs h0 va N v) (hw : Cs h0 wa N w) (okv : ValidL v) (okw : ValidL w) (hN : N ≤ 80) {ca cb cd : Int} {c : Cq} (hc : isC ca cb cd c) {Q : Exit → SS → Prop}
  (hbad : ∀ h' e kn K,Ext h0 h' → Q .ret ⟨(10,.bool true) :: e,kn,K,h'⟩)
  (hok : ∀ h' a cc Z,Cs h' a N Z → SumL c v w Z N → Ext h0 h' → Q (.exit 0) ⟨[(0,.int .i64 n),(1,.slice la N lc),(2,.slice va N vc),(3,.slice wa N wc),(9,.pointer (some ⟨0,0,some 0⟩)),(11,.bool true),(12,.slice a N cc)],1,[(0,[.int .i64 ca,.int .i64 cb,.int .i64 cd])],h'⟩) :
  ∀ (m : Nat) (k : Nat) (h : AHeap) (a : Option Addr) (cc : Nat) (Z : List Ck),N - k ≤ m → k ≤ N → Apd h 3 a k cc (Z.flatMap Ck.cells) → SumL c v w Z k → From h0.next a → Ext h0 h →
   head 4 6 1 ⟨[(0,.int .i64 n),(1,.slice la N lc),(2,.slice va N vc),(3,.slice wa N wc),(9,.pointer (some ⟨0,0,some 0⟩)),(11,.bool true),(12,.slice a k cc),(13,.int .i64 k)],1,[(0,[.int .i64 ca,.int .i64 cb,.int .i64 cd])],h⟩ Q:=by
 have lv:=hv.len
 have lw:=hw.len
 intro m
 induction m with
 | zero =>
  intro k h a cc Z hm hk t hz hf he
  obtain ⟨K,hK⟩ : ∃ z : Int,z = k:=⟨_,rfl⟩
  obtain rfl : k = N:=by omega
  rw [← hK]
  refine hA.roundR Try.func4 r4_ok (zc ?_)
  refine br (K < k) (by rw [e_lss hA,e_ofNat hA]) (fun q => by omega) (fun _ => ?_) <;> refine zc ?_
  exact hok h a cc Z ⟨t.cells,ck_len,by omega⟩ hz he
 | succ m ih =>
 intro k h a cc Z hm hk t hz hf he
 obtain ⟨K,hK⟩ : ∃ z : Int,z = k:=⟨_,rfl⟩
 by_cases ck : k < N
 rotate_left
 ·obtain rfl : k = N:=by omega
  rw [← hK]
  refine hA.roundR Try.func4 r4_ok (zc ?_)
  refine br (K < k) (by rw [e_lss hA,e_ofNat hA]) (fun q => by omega) (fun _ => ?_) <;> refine zc ?_
  exact hok h a cc Z ⟨t.cells,ck_len,by omega⟩ hz he
 rw [← hK]
 obtain ⟨h9,hh9⟩ : ∃ z,z = bump h 12:=⟨_,rfl⟩
 have x9 : Ext h h9:=by rw [hh9];exact ext_bump hA _ _
 have e9:=he.trans x9
 have l9:=e9.lowOK hlow
 obtain ⟨bw,ow,w1,w2,w3,ea,lw',hgw,rw1⟩:=cs_at (hw.ext e9) (i:=K) (by omega) (by omega)
 cases ea
 have rw1:=rd_ok hA rw1
 have kw:=okw K (by omega) (by omega)
 rw [hgw] at kw
 have kw : isC w1 w2 w3 (gt w K).val:=by rw [hgw];exact kw.is
 have kv:=(okv K (by omega) (by omega)).is
 refine hA.roundR Try.func4 r4_ok (zc ?_)
 refine br (K < N) (by rw [e_lss hA,e_ofNat hA]) (fun _ => ?_) (fun q => by omega) <;> refine zc ?_
 rw [← hh9]
 refine zq ?_
 refine cmul_ok hA (low_fresh hA h9) (fun r s t' e hz1 k1 ez => ⟨_,_,_,_,rfl,?_⟩)
 obtain ⟨hX,hhX⟩ : ∃ z,z = lowered h9 hz1:=⟨_,rfl⟩
 have eX : Ext h9 hX:=by rw [hhX];exact ext_low hA l9 (.refl h9) ez
 refine zc ?_
 rw [← hhX]
 refine ⟨ne_ok hA (by decide),wrote_no hA ez,?_⟩
 refine zc ?_
 have yX:=e9.trans eX
 have o1:=out_cases hc kw k1
 rcases o1 with ⟨rfl,p1⟩ | rfl
 rotate_left
 ·refine br True (by rw [e_neq hA];rfl) (fun _ => ?_) (fun q => absurd trivial q) <;> refine zc ?_
  rw [show cmp .eql 16 16 = true by rw [e_eql hA];rfl]
  exact hbad hX _ _ _ yX
 refine br False (by rw [e_neq hA];rfl) (fun q => q.elim) (fun _ => ?_) <;> refine zc ?_
 obtain ⟨hB,hhB⟩ : ∃ z,z = bump hX 12:=⟨_,rfl⟩
 have xB : Ext hX hB:=by rw [hhB];exact ext_bump hA _ _
 have eB:=yX.trans xB
 have lB:=eB.lowOK hlow
 obtain ⟨bv,ov,v1,v2,v3,ea,lv',hgv,rv1⟩:=cs_at (hv.ext eB) (i:=K) (by omega) (by omega)
 cases ea
 have rv1:=rd_ok hA rv1
 rw [hgv] at kv
 rw [← hhB]
 refine zq ?_
 refine cadd_ok hA (low_fresh hA hB) (fun r' s' t'' e' hz2 k2 ez2 => ⟨_,_,_,_,rfl,?_⟩)
 obtain ⟨hY,hhY⟩ : ∃ z,z = lowered hB hz2:=⟨_,rfl⟩
 have eY : Ext hB hY:=by rw [hhY];exact ext_low hA lB (.refl hB) ez2
 refine zc ?_
 rw [← hhY]
 refine ⟨ne_ok hA (by decide),wrote_no hA ez2,?_⟩
 refine zc ?_
 have yY:=eB.trans eY
 have o2:=out_cases kv p1 k2
 rcases o2 with ⟨rfl,p2⟩ | rfl
 rotate_left
 ·refine br True (by rw [e_neq hA];rfl) (fun _ => ?_) (fun q => absurd trivial q) <;> refine zc ?_
  rw [show cmp .eql 16 16 = true by rw [e_eql hA];rfl]
  exact hbad hY _ _ _ yY
 refine br False (by rw [e_neq hA];rfl) (fun q => q.elim) (fun _ => ?_) <;> refine zc ?_
 have tY:=t.ext (((x9.trans eX).trans xB).trans eY)
 refine appK_ok hA TC ck_len (by omega) ck_ok (v:=⟨r',s',t''⟩) tY (by omega) (fun b' h' ha hx hn' hb' hk' => ?_)
 generalize someCap 3 (k + 1) = cc' at *
 obtain ⟨k',hk2⟩ : ∃ z,z = k + 1:=⟨_,rfl⟩
 rw [← hk2] at ha ⊢
 refine zc ?_
 rw [add64 hA (by omega) (by omega),show K + 1 = ((k' : Nat) : Int) by omega]
 refine ih k' h' _ _ (Z ++ [⟨r',s',t''⟩]) (by omega) (by omega) ha ⟨by rw [List.length_append,List.length_singleton];have:=hz.1;omega,fun j j0 j1 => ?_⟩ (fun ad e => by cases e;have:=yY.next;simp only;omega) (hx h0 yY hf)
 have zl:=hz.1
 by_cases cj : j < k
 ·rw [gt_append_left Z _ j0 (by omega)]
  exact hz.2 j j0 cj
 ·obtain rfl : j = K:=by omega
  rw [gt_append_at Z _ (by omega),hgv]
  exact ⟨p2.val,_,p2⟩
end Go.Proofs.Ytkbgkjlgnmlghaa
