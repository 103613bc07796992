import Derived.Test.YtkbgkjlgnmlghaaCaQ
set_option linter.unusedSimpArgs false
set_option linter.unusedVariables false
namespace Go.Proofs.Ytkbgkjlgnmlghaa
open Go.Sim
set_option linter.unusedVariables false
set_option maxRecDepth 100000
variable {F : Prims} {call head arith cmp scmp bnot bsame conv neg imax imin ofNat slen place inR nz geZ rd wr push next mkOK nat zeros sadd eqAgg cut slc sslc strAt part app cpy putAt fresh lowered bump wrote addN lt ne fpAll brk yn rng mget mput mnew bytes clr : _} (hA : AP F ⟨call,head,arith,cmp,scmp,bnot,bsame,conv,neg,imax,imin,ofNat,slen,place,inR,nz,geZ,rd,wr,push,next,mkOK,nat,zeros,sadd,eqAgg,cut,slc,sslc,strAt,part,app,cpy,putAt,fresh,lowered,bump,wrote,addN,lt,ne,fpAll,brk,yn,rng,mget,mput,mnew,bytes,clr⟩)
include hA
theorem lvalid_ok {h : AHeap} (hlow : h.low ≤ h.next) {n : Int} {a a' : Option Addr} {N M c c' : Nat} {l : List Sk} {v : List Ck} (hl : Sps h a N l) (hi : allS l) (hv : Cs h a' M v) {Q : Value → AHeap → Prop}
  (hQ : ∀ (r : Bool) h',(r = true → CheckS n l 0 ∧ N = M ∧ ValidL v ∧ N ≤ 40 ∧ M ≤ 80) → Ext h h' → Q (.bool r) h') : call 19 [.int .i64 n,.slice a N c,.slice a' M c'] h Q:=by
 refine hA.bodyR Try.func19 r19_ok (hA.alike _ _ _ rfl) hlow (zc ?_)
 refine great_ok hA hlow (fun r hr => ⟨_,rfl,?_⟩)
 cases r with
 | true =>
  refine zc ?_
  rw [show bnot true = false by rw [e_bnot hA];rfl]
  refine zc ?_
  exact hQ false h (fun q => by cases q) (.refl h)
 | false =>
 obtain ⟨hN,hM⟩:=hr rfl
 refine zc ?_
 rw [show bnot false = true by rw [e_bnot hA];rfl]
 refine zc ?_
 refine rkcheck_ok hA hlow hl hi (fun e h1 k1 x1 => ⟨_,rfl,?_⟩)
 refine zc ?_
 refine br (e = 0) (by rw [e_eql hA]) (fun c1 => ?_) (fun c1 => ?_) <;> refine zc ?_
 rotate_left
 ·exact hQ false h1 (fun q => by cases q) x1
 refine br ((N : Int) = M) (by rw [e_eql hA,e_ofNat hA,e_ofNat hA]) (fun c2 => ?_) (fun c2 => ?_) <;> refine zc ?_
 rotate_left
 ·exact hQ false h1 (fun q => by cases q) x1
 refine rvalid_ok hA (x1.lowOK hlow) (hv.ext x1) (by omega) (fun r h2 k2 x2 => ⟨_,rfl,?_⟩)
 refine zc ?_
 subst c1
 exact hQ r h2 (fun q => ⟨k1,by omega,k2.1 q,hN,hM⟩) (x1.trans x2)
theorem kgrid_is2 {h : AHeap} (hlow : h.low ≤ h.next) {n : Int} {a a' : Option Addr} {N M c c' : Nat} {l : List Sk} {v : List Ck} (hl : Sps h a N l) (hi : allS l) (hv : Cs h a' M v) (hM : M ≤ 100000) (hN : N ≤ 100000) {Q : Value → AHeap → Prop}
  (hQ : ∀ b k cap g e h',GridIs n l v g e → GridV h h' b k g → (e = 0 → (k : Int) = n) → Ext h h' → Q (.tuple #[.slice b k cap,.int .i64 e]) h') :
  call 12 [.int .i64 n,.slice a N c,.slice a' M c'] h Q:=
 kgrid_ok hA hlow hl hi hv hM hN (fun e h' k z x => hQ none 0 0 [] e h' k (.inl ⟨rfl,rfl,rfl⟩) (fun q => absurd q z) x) (fun oa bs g h' k sq t => hQ _ _ _ g 0 h' k (.inr ⟨oa,bs,rfl,by have:=k.n;omega,by have:=k.n;omega,sq,t⟩) (fun _ => by have:=k.n;omega) t.ext)
theorem sq_one {h0 w : AHeap} (hlow : h0.low ≤ h0.next) {oa cap : Nat} {bs : List Nat} {g : Gd} {n : Nat} (sq : SqG n g) (hn : n ≤ 8) (t : Grid2 Ck.cells 3 w h0 oa bs g) {Q : Exit → SS → Prop}
  (hok : ∀ h',Ext h0 h' → Q (.exit 0) ⟨[(0,.slice (some ⟨oa,0,none⟩) n cap)],0,[],h'⟩) :
  ∀ (m : Nat) (i : Int) (h : AHeap),(n - i).toNat ≤ m → 0 ≤ i → i ≤ n → Ext h0 h →
   head 23 4 0 ⟨[(0,.slice (some ⟨oa,0,none⟩) n cap),(3,.int .i64 i)],0,[],h⟩ Q:=by
 intro m
 induction m with
 | zero =>
  intro i h hm i0 i1 he
  refine hA.roundR Try.func23 r23_ok (zc ?_)
  refine br (i < n) (by rw [e_lss hA,e_ofNat hA]) (fun c1 => by omega) (fun c1 => ?_) <;> refine zc ?_
  exact hok h he
 | succ m ih =>
 intro i h hm i0 i1 he
 by_cases ci : i < n
 rotate_left
 ·refine hA.roundR Try.func23 r23_ok (zc ?_)
  refine br (i < n) (by rw [e_lss hA,e_ofNat hA]) (fun c1 => absurd c1 ci) (fun c1 => ?_) <;> refine zc ?_
  exact hok h he
 have t9:=t.more he
 have gl:=sq.len
 have ry:=sq.row i i0 ci
 obtain ⟨rb,hrb⟩ : ∃ z,z = bs.getD i.toNat 0:=⟨_,rfl⟩
 have d1:=t9.head i0 (by omega)
 unfold hdr at d1
 rw [ry,← hrb] at d1
 have d1:=rd_ok hA d1
 generalize hcap : someCap 3 n = cp at *
 refine hA.roundR Try.func23 r23_ok (zc ?_)
 refine br (i < n) (by rw [e_lss hA,e_ofNat hA]) (fun c1 => ?_) (fun c1 => absurd ci c1) <;> refine zc ?_
 refine zq ?_
 refine br ((n : Int) ≠ n) (by rw [e_neq hA,e_ofNat hA]) (fun q => absurd rfl q) (fun _ => ?_) <;> refine zc ?_
 rw [add64 hA (by omega) (by omega)]
 exact ih (i + 1) h (by omega) (by omega) (by omega) he
theorem sq_two {h0 w : AHeap} (hlow : h0.low ≤ h0.next) {oa cap : Nat} {bs : List Nat} {g : Gd} {n : Nat} (sq : SqG n g) (hn : n ≤ 8) (t : Grid2 Ck.cells 3 w h0 oa bs g) {Q : Exit → SS → Prop}
  (hok : ∀ h' kn,Ext h0 h' → Q (.exit 2) ⟨[],kn,[],h'⟩) :
  ∀ (m : Nat) (i : Int) (h : AHeap),(n - i).toNat ≤ m → 0 ≤ i → i ≤ n → Ext h0 h →
   head 23 9 0 ⟨[(0,.slice (some ⟨oa,0,none⟩) n cap),(4,.int .i64 i)],0,[],h⟩ Q:=by
 intro m
 induction m with
 | zero =>
  intro i h hm i0 i1 he
  refine hA.roundR Try.func23 r23_ok (zc ?_)
  refine br (i < n) (by rw [e_lss hA,e_ofNat hA]) (fun c1 => by omega) (fun c1 => ?_) <;> refine zc ?_
  exact hok h _ he
 | succ m ih =>
 intro i h hm i0 i1 he
 by_cases ci : i < n
 rotate_left
 ·refine hA.roundR Try.func23 r23_ok (zc ?_)
  refine br (i < n) (by rw [e_lss hA,e_ofNat hA]) (fun c1 => absurd c1 ci) (fun c1 => ?_) <;> refine zc ?_
  exact hok h _ he
 have t9:=t.more he
 have gl:=sq.len
 have ry:=sq.row i i0 ci
 obtain ⟨rb,hrb⟩ : ∃ z,z = bs.getD i.toNat 0:=⟨_,rfl⟩
 have d1:=t9.head i0 (by omega)
 unfold hdr at d1
 rw [ry,← hrb] at d1
 have d1:=rd_ok hA d1
 have w1 : Cs h (some ⟨rb,0,none⟩) n (gt g i):=by
  have:=Own.rows (t9.row i i0 (by omega)) t9.each (by omega) (t9.ltr _ (bs_mem (by have:=t.len;omega)))
  rwa [ry,← hrb] at this
 generalize hcap : someCap 3 n = cp at *
 refine hA.roundR Try.func23 r23_ok (zc ?_)
 refine br (i < n) (by rw [e_lss hA,e_ofNat hA]) (fun c1 => ?_) (fun c1 => absurd ci c1) <;> refine zc ?_
 refine zq ?_
 refine rvalid_ok hA (he.lowOK hlow) w1 (by omega) (fun r h2 k2 x2 => ⟨_,rfl,?_⟩)
 obtain rfl : r = true:=k2.2 (fun j j0 j1 => sq.ok i j i0 ci j0 (by rw [ry] at j1;exact j1))
 refine zc ?_
 rw [show bnot true = false by rw [e_bnot hA];rfl]
 refine zc ?_
 rw [add64 hA (by omega) (by omega)]
 exact ih (i + 1) h2 (by omega) (by omega) (by omega) (he.trans x2)
theorem square_ok {h w : AHeap} (hlow : h.low ≤ h.next) {a : Option Addr} {cap : Nat} {g : Gd} {n : Nat} (n2 : 2 ≤ n) (t : GridV w h a n g) {Q : Value → AHeap → Prop}
  (hQ : ∀ h',Ext h h' → Q (.int .i64 0) h') : call 23 [.slice a n cap] h Q:=by
 rcases t with ⟨rfl,rfl,rfl⟩ | ⟨oa,bs,rfl,k2,k8,sq,t⟩
 ·omega
 refine hA.bodyR Try.func23 r23_ok (hA.alike _ _ _ rfl) hlow (zc ?_)
 refine br ((n : Int) < 2) (by rw [e_lss hA,e_ofNat hA]) (fun q => by omega) (fun _ => ?_) <;> refine zc ?_
 refine br (8 < (n : Int)) (by rw [e_gtr hA,e_ofNat hA]) (fun q => by omega) (fun _ => ?_) <;> refine zc ?_
 refine sq_one hA hlow sq k8 t (fun h1 x1 => ?_) n 0 h (by omega) (by omega) (by omega) (.refl h)
 refine zc ?_
 refine sq_two hA (x1.lowOK hlow) sq k8 (t.more x1) (fun h2 kn x2 => ?_) n 0 h1 (by omega) (by omega) (by omega) (.refl h1)
 refine zc ?_
 exact hQ h2 (x1.trans x2)
end Go.Proofs.Ytkbgkjlgnmlghaa
