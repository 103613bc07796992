import Derived.Test.YtkbgkjlgnmlghaaCaJ
import Derived.Test.YtkbgkjlgnmlghaaCaF
set_option linter.unusedSimpArgs false
set_option linter.unusedVariables false
namespace Go.Proofs.Ytkbgkjlgnmlghaa
open Go.Sim
set_option linter.unusedVariables false
set_option maxRecDepth 100000
theorem guardP : Try.prog.eqGuardType Try.prog.depth 56 = false:=by kernel_rfl
theorem eqP (a b c d a' b' c' d' : Int) : ∃ r,eqA Try.prog 30 56 (.agg #[.int .i64 a,.int .i64 b,.int .i64 c,.int .i64 d]) (.agg #[.int .i64 a',.int .i64 b',.int .i64 c',.int .i64 d']) = some r ∧ (r = true ↔ a = a' ∧ b = b' ∧ c = c' ∧ d = d'):=by
 have h3 : Try.prog.underlying 2 = some (.int .i64):=by kernel_rfl
 have h4 : Try.prog.underlying 3 = some (.int .i64):=by kernel_rfl
 have hst : Try.prog.stoodInHeld 23 = false:=by kernel_rfl
 have hst2 : Try.prog.stoodInHeld 56 = false:=by kernel_rfl
 have i2 : isAggB Try.prog 3 = some false:=by kernel_rfl
 have i3 : isAggB Try.prog 2 = some false:=by kernel_rfl
 have i4 : isAggB Try.prog 23 = some true:=by kernel_rfl
 have s4 : sizeT Try.prog 23 = some 2:=by kernel_rfl
 have e3 : ∀ (n : Nat) (x y : Int),eqA Try.prog (n + 1) 2 (.int .i64 x) (.int .i64 y) = some (x == y):=by
  intro n x y
  unfold eqA
  rw [h3]
  simp
 have e2 : ∀ (n : Nat) (x y : Int),eqA Try.prog (n + 1) 3 (.int .i64 x) (.int .i64 y) = some (x == y):=by
  intro n x y
  unfold eqA
  rw [h4]
  simp
 have e4 : ∀ a b a' b' : Int,eqA Try.prog (28 + 1) 23 (.agg #[.int .i64 a,.int .i64 b]) (.agg #[.int .i64 a',.int .i64 b']) = some ((a == a') && (b == b')):=by
  intro a b a' b'
  unfold eqA
  rw [Try.underlying23]
  have e3' : ∀ (x y : Int),eqA Try.prog 28 2 (.int .i64 x) (.int .i64 y) = some (x == y):=e3 27
  simp only [hst,cond_false,List.foldr,partA,i3,List.getElem?_cons_zero,List.getElem?_cons_succ,e3',String.reduceEq,if_false]
  cases a == a' <;> cases b == b' <;> rfl
 have key : eqA Try.prog (28 + 1 + 1) 56 (.agg #[.int .i64 a,.int .i64 b,.int .i64 c,.int .i64 d]) (.agg #[.int .i64 a',.int .i64 b',.int .i64 c',.int .i64 d']) = some ((a == a') && ((b == b') && ((c == c') && (d == d')))):=by
  unfold eqA
  rw [Try.underlying56]
  have e2' : ∀ (x y : Int),eqA Try.prog 29 3 (.int .i64 x) (.int .i64 y) = some (x == y):=e2 28
  have e4' : ∀ a b a' b' : Int,eqA Try.prog 29 23 (.agg #[.int .i64 a,.int .i64 b]) (.agg #[.int .i64 a',.int .i64 b']) = some ((a == a') && (b == b')):=e4
  have r5 : ∀ w x y z : Value,readN [w,x,y,z] 2 2 = some [y,z]:=fun _ _ _ _ => rfl
  simp only [hst2,cond_false,List.foldr,partA,i2,i4,s4,List.getElem?_cons_zero,List.getElem?_cons_succ,e2',r5,String.reduceEq,if_false]
  rw [e4']
  cases a == a' <;> cases b == b' <;> cases ((c == c') && (d == d')) <;> rfl
 refine ⟨_,key,?_⟩
 simp only [Bool.and_eq_true,beq_iff_eq]
theorem pk_some {h : AHeap} {a : Option Addr} {n : Nat} {l : List Pk} (p : Rows Pk.cells 4 h a n l) (hn : 0 < n) : ∃ b o,a = some ⟨b,o,none⟩:=by
 obtain ⟨b,o,e,_,_⟩:=p.at (i:=0) (by omega) (by omega)
 exact ⟨b,o,e⟩
theorem pk_at {h : AHeap} {a : Option Addr} {n : Nat} {l : List Pk} (p : Rows Pk.cells 4 h a n l) {i : Int} (h0 : 0 ≤ i) (hi : i < n) : ∃ b o x y z w,a = some ⟨b,o,none⟩ ∧ gt l i = ⟨x,y,z,w⟩ ∧ h.readG ⟨b,o + i.toNat * 4,none⟩ 4 = some [.int .i64 x,.int .i64 y,.int .i64 z,.int .i64 w]:=by
 obtain ⟨b,o,e,_,w⟩:=p.at h0 hi
 have:=w 0 4 (by omega) (by omega)
 rw [Nat.add_zero] at this
 exact ⟨b,o,_,_,_,_,e,rfl,this⟩
variable {F : Prims} {call head arith cmp scmp bnot bsame conv neg imax imin ofNat slen place inR nz geZ rd wr push next mkOK nat zeros sadd eqAgg cut slc sslc strAt part app cpy putAt fresh lowered bump wrote addN lt ne fpAll brk yn rng mget mput mnew bytes clr : _} (hA : AP F ⟨call,head,arith,cmp,scmp,bnot,bsame,conv,neg,imax,imin,ofNat,slen,place,inR,nz,geZ,rd,wr,push,next,mkOK,nat,zeros,sadd,eqAgg,cut,slc,sslc,strAt,part,app,cpy,putAt,fresh,lowered,bump,wrote,addN,lt,ne,fpAll,brk,yn,rng,mget,mput,mnew,bytes,clr⟩)
include hA
theorem great_ok {h : AHeap} (hlow : h.low ≤ h.next) {a a' : Option Addr} {N M c c' : Nat} {Q : Value → AHeap → Prop}
  (hQ : ∀ r : Bool,(r = false → N ≤ 40 ∧ M ≤ 80) → Q (.bool r) h) : call 9 [.slice a N c,.slice a' M c'] h Q:=by
 refine hA.bodyR Try.func9 r9_ok (hA.alike _ _ _ rfl) hlow (zc ?_)
 refine br ((16 : Int) < N) (by rw [e_gtr hA,e_ofNat hA]) (fun c1 => ?_) (fun c1 => ?_) <;> refine zc ?_
 ·refine br ((N : Int) ≤ 32) (by rw [e_leq hA,e_ofNat hA]) (fun c2 => ?_) (fun c2 => ?_) <;> refine zc ?_
  ·exact hQ true (fun q => by cases q)
  refine br ((40 : Int) < N) (by rw [e_gtr hA,e_ofNat hA]) (fun c3 => ?_) (fun c3 => ?_) <;> refine zc ?_
  ·exact hQ true (fun q => by cases q)
  rw [e_gtr hA,e_ofNat hA]
  exact hQ _ (fun q => by have:=of_decide_eq_false q;omega)
 ·refine br ((40 : Int) < N) (by rw [e_gtr hA,e_ofNat hA]) (fun c3 => ?_) (fun c3 => ?_) <;> refine zc ?_
  ·exact hQ true (fun q => by cases q)
  rw [e_gtr hA,e_ofNat hA]
  exact hQ _ (fun q => by have:=of_decide_eq_false q;omega)
theorem sparts_loop {h0 : AHeap} (hlow : h0.low ≤ h0.next) {a a' : Option Addr} {n c c' : Nat} {l : List Pk} (hl : Rows Pk.cells 4 h0 a n l) (hl' : Rows Pk.cells 4 h0 a' n l) (hn : n ≤ 100000) {Q : Exit → SS → Prop}
  (hok : ∀ h' kn,Ext h0 h' → Q (.exit 0) ⟨[],kn,[],h'⟩) :
  ∀ (m : Nat) (i : Int) (h : AHeap),(n - i).toNat ≤ m → 0 ≤ i → i ≤ n → Ext h0 h →
   head 16 4 0 ⟨[(0,.slice a n c),(1,.slice a' n c'),(5,.int .i64 i)],0,[],h⟩ Q:=by
 have hlen:=hl.len
 intro m
 induction m with
 | zero =>
  intro i h hm i0 i1 he
  refine hA.roundR Try.func16 r16_ok (zc ?_)
  refine br (i < n) (by rw [e_lss hA,e_ofNat hA]) (fun c1 => by omega) (fun c1 => ?_) <;> refine zc ?_
  exact hok h _ he
 | succ m ih =>
 intro i h hm i0 i1 he
 by_cases ci : i < n
 rotate_left
 ·refine hA.roundR Try.func16 r16_ok (zc ?_)
  refine br (i < n) (by rw [e_lss hA,e_ofNat hA]) (fun c1 => absurd c1 ci) (fun c1 => ?_) <;> refine zc ?_
  exact hok h _ he
 obtain ⟨b,o,rfl⟩:=pk_some hl (by omega)
 obtain ⟨b',o',rfl⟩:=pk_some hl' (by omega)
 obtain ⟨h9,hh9⟩ : ∃ z,z = bump h 9:=⟨_,rfl⟩
 have e9 : Ext h0 h9:=by rw [hh9];exact he.trans (ext_bump hA _ _)
 obtain ⟨_,_,a1,a2,a3,a4,ea,hg,r1⟩:=pk_at (hl.ext e9) (i:=i) i0 ci
 cases ea
 obtain ⟨_,_,p1,p2,p3,p4,eb,hp,q1⟩:=pk_at (hl'.ext e9) (i:=i) i0 ci
 cases eb
 rw [hg] at hp
 cases hp
 have r2:=rd_ok hA r1
 have q2:=rd_ok hA q1
 obtain ⟨r,hr1,hr2⟩:=eqP a1 a2 a3 a4 a1 a2 a3 a4
 obtain rfl : r = true:=hr2.2 ⟨rfl,rfl,rfl,rfl⟩
 refine hA.roundR Try.func16 r16_ok (zc ?_)
 refine br (i < n) (by rw [e_lss hA,e_ofNat hA]) (fun c1 => ?_) (fun c1 => absurd ci c1) <;> refine zc ?_
 rw [← hh9]
 refine zq ?_
 rw [e_eqAgg hA]
 refine ⟨guardP,true,hr1,?_⟩
 refine zc ?_
 rw [show bnot true = false by rw [e_bnot hA];rfl]
 refine zc ?_
 rw [add64 hA (by omega) (by omega)]
 exact ih (i + 1) h9 (by omega) (by omega) (by omega) e9
theorem sparts_ok {h : AHeap} (hlow : h.low ≤ h.next) {a a' : Option Addr} {n c c' : Nat} {l : List Pk} (hl : Rows Pk.cells 4 h a n l) (hl' : Rows Pk.cells 4 h a' n l) (hn : n ≤ 100000) {Q : Value → AHeap → Prop}
  (hQ : ∀ h',Ext h h' → Q (.bool true) h') : call 16 [.slice a n c,.slice a' n c'] h Q:=by
 refine hA.bodyR Try.func16 r16_ok (hA.alike _ _ _ rfl) hlow (zc ?_)
 refine br ((n : Int) ≠ n) (by rw [e_neq hA,e_ofNat hA]) (fun c1 => absurd rfl c1) (fun c1 => ?_) <;> refine zc ?_
 refine sparts_loop hA hlow hl hl' hn (fun h' kn x' => ?_) n 0 h (by omega) (by omega) (by omega) (.refl h)
 refine zc ?_
 exact hQ h' x'
theorem sgrid_loop {h0 w w' : AHeap} (hlow : h0.low ≤ h0.next) {oa oa' cap cap' : Nat} {bs bs' : List Nat} {g : Gd} {n : Nat} (sq : SqG n g) (hn : n ≤ 8) (t : Grid2 Ck.cells 3 w h0 oa bs g) (t' : Grid2 Ck.cells 3 w' h0 oa' bs' g) {Q : Exit → SS → Prop}
  (hok : ∀ h' kn,Ext h0 h' → Q (.exit 0) ⟨[],kn,[],h'⟩) :
  ∀ (m : Nat) (i : Int) (h : AHeap),(n - i).toNat ≤ m → 0 ≤ i → i ≤ n → Ext h0 h →
   head 17 4 0 ⟨[(0,.slice (some ⟨oa,0,none⟩) n cap),(1,.slice (some ⟨oa',0,none⟩) n cap'),(5,.int .i64 i)],0,[],h⟩ Q:=by
 intro m
 induction m with
 | zero =>
  intro i h hm i0 i1 he
  refine hA.roundR Try.func17 r17_ok (zc ?_)
  refine br (i < n) (by rw [e_lss hA,e_ofNat hA]) (fun c1 => by omega) (fun c1 => ?_) <;> refine zc ?_
  exact hok h _ he
 | succ m ih =>
 intro i h hm i0 i1 he
 by_cases ci : i < n
 rotate_left
 ·refine hA.roundR Try.func17 r17_ok (zc ?_)
  refine br (i < n) (by rw [e_lss hA,e_ofNat hA]) (fun c1 => absurd c1 ci) (fun c1 => ?_) <;> refine zc ?_
  exact hok h _ he
 obtain ⟨h9,hh9⟩ : ∃ z,z = bump h 10:=⟨_,rfl⟩
 have e9 : Ext h0 h9:=by rw [hh9];exact he.trans (ext_bump hA _ _)
 have l9:=e9.lowOK hlow
 have t9:=t.more e9
 have t9':=t'.more e9
 have gl:=sq.len
 have ry:=sq.row i i0 ci
 obtain ⟨rb,hrb⟩ : ∃ z,z = bs.getD i.toNat 0:=⟨_,rfl⟩
 obtain ⟨rb',hrb'⟩ : ∃ z,z = bs'.getD i.toNat 0:=⟨_,rfl⟩
 have d1:=t9.head i0 (by omega)
 have d2:=t9'.head i0 (by omega)
 unfold hdr at d1 d2
 rw [ry,← hrb] at d1
 rw [ry,← hrb'] at d2
 have d1:=rd_ok hA d1
 have d2:=rd_ok hA d2
 have w1 : Cs h9 (some ⟨rb,0,none⟩) n (gt g i):=by
  have:=Own.rows (t9.row i i0 (by omega)) t9.each (by omega) (t9.ltr _ (bs_mem (by have:=t.len;omega)))
  rwa [ry,← hrb] at this
 have w2 : Cs h9 (some ⟨rb',0,none⟩) n (gt g i):=by
  have:=Own.rows (t9'.row i i0 (by omega)) t9'.each (by omega) (t9'.ltr _ (bs_mem (by have:=t'.len;omega)))
  rwa [ry,← hrb'] at this
 generalize hcap : someCap 3 n = cp at *
 refine hA.roundR Try.func17 r17_ok (zc ?_)
 refine br (i < n) (by rw [e_lss hA,e_ofNat hA]) (fun c1 => ?_) (fun c1 => absurd ci c1) <;> refine zc ?_
 rw [← hh9]
 refine zq ?_
 refine csame_ok hA (low_fresh hA h9) (w1.ext (ext_fresh hA h9)) (w2.ext (ext_fresh hA h9)) (by omega) (fun r hz hr ez => ⟨_,rfl,?_⟩)
 obtain rfl : r = true:=hr.2 rfl
 obtain ⟨hX,hhX⟩ : ∃ z,z = lowered h9 hz:=⟨_,rfl⟩
 have eX : Ext h9 hX:=by rw [hhX];exact ext_low hA l9 (.refl h9) ez
 refine zc ?_
 rw [← hhX]
 rw [show bnot true = false by rw [e_bnot hA];rfl]
 refine zc ?_
 rw [add64 hA (by omega) (by omega)]
 exact ih (i + 1) hX (by omega) (by omega) (by omega) (e9.trans eX)
theorem sgrid_ok {h w w' : AHeap} (hlow : h.low ≤ h.next) {oa oa' cap cap' : Nat} {bs bs' : List Nat} {g : Gd} {n : Nat} (sq : SqG n g) (hn : n ≤ 8) (t : Grid2 Ck.cells 3 w h oa bs g) (t' : Grid2 Ck.cells 3 w' h oa' bs' g) {Q : Value → AHeap → Prop}
  (hQ : ∀ h',Ext h h' → Q (.bool true) h') : call 17 [.slice (some ⟨oa,0,none⟩) n cap,.slice (some ⟨oa',0,none⟩) n cap'] h Q:=by
 refine hA.bodyR Try.func17 r17_ok (hA.alike _ _ _ rfl) hlow (zc ?_)
 refine br ((n : Int) ≠ n) (by rw [e_neq hA,e_ofNat hA]) (fun c1 => absurd rfl c1) (fun c1 => ?_) <;> refine zc ?_
 refine sgrid_loop hA hlow sq hn t t' (fun h' kn x' => ?_) n 0 h (by omega) (by omega) (by omega) (.refl h)
 refine zc ?_
 exact hQ h' x'
theorem snil_loop {h : AHeap} (hlow : h.low ≤ h.next) {c c' : Nat} {Q : Exit → SS → Prop} (hok : ∀ h' kn,Ext h h' → Q (.exit 0) ⟨[],kn,[],h'⟩) :
  head 17 4 0 ⟨[(0,.slice none 0 c),(1,.slice none 0 c'),(5,.int .i64 0)],0,[],h⟩ Q:=by
 refine hA.roundR Try.func17 r17_ok (zc ?_)
 refine br ((0 : Int) < 0) (by rw [e_lss hA,e_ofNat hA];rfl) (fun c1 => by omega) (fun c1 => ?_) <;> refine zc ?_
 exact hok h _ (.refl h)
theorem snil_ok {h : AHeap} (hlow : h.low ≤ h.next) {c c' : Nat} {Q : Value → AHeap → Prop}
  (hQ : ∀ h',Ext h h' → Q (.bool true) h') : call 17 [.slice none 0 c,.slice none 0 c'] h Q:=by
 refine hA.bodyR Try.func17 r17_ok (hA.alike _ _ _ rfl) hlow (zc ?_)
 refine br ((0 : Int) ≠ 0) (by rw [e_neq hA,e_ofNat hA];rfl) (fun c1 => absurd rfl c1) (fun c1 => ?_) <;> refine zc ?_
 refine snil_loop hA hlow (fun h' kn x' => ?_)
 refine zc ?_
 exact hQ h' x'
end Go.Proofs.Ytkbgkjlgnmlghaa
