import Derived.Test.YtkbgkjlgnmlghaaGreatFracX
set_option linter.unusedSimpArgs false
set_option linter.unusedVariables false
namespace Go.Proofs.YtkbgkjlgnmlghaaGreat
open Go.Sim
set_option linter.unusedVariables false
set_option maxRecDepth 100000
structure Sk where
 un : Int
 ud : Int
 vn : Int
 vd : Int
instance : Inhabited Sk:=⟨⟨0,0,0,0⟩⟩
def Sk.cells (k : Sk) : List Value:=[.int .i64 k.un,.int .i64 k.ud,.int .i64 k.vn,.int .i64 k.vd]
def Sk.i64 (k : Sk) : Prop:=Proofs.YtkbgkjlgnmlghaaGreat.i64 k.un ∧ Proofs.YtkbgkjlgnmlghaaGreat.i64 k.ud ∧ Proofs.YtkbgkjlgnmlghaaGreat.i64 k.vn ∧ Proofs.YtkbgkjlgnmlghaaGreat.i64 k.vd
theorem sk_len (k : Sk) : k.cells.length = 4:=rfl
abbrev Sps (h : AHeap) (a : Option Addr) (n : Nat) (l : List Sk) : Prop:=Rows Sk.cells 4 h a n l
def allS (l : List Sk) : Prop:=∀ i : Int,0 ≤ i → i < l.length → (gt l i).i64
theorem sp_at {h : AHeap} {a : Option Addr} {n : Nat} {l : List Sk} (p : Sps h a n l) (q : allS l) {i : Int} (h0 : 0 ≤ i) (hi : i < n) :
  ∃ b o x y z w,a = some ⟨b,o,none⟩ ∧ b < h.next ∧ gt l i = ⟨x,y,z,w⟩ ∧ i64 x ∧ i64 y ∧ i64 z ∧ i64 w ∧ h.readG ⟨b,o + i.toNat * 4,none⟩ 4 = some [.int .i64 x,.int .i64 y,.int .i64 z,.int .i64 w] ∧
   h.readG ⟨b,o + i.toNat * 4 + 0,none⟩ 2 = some [.int .i64 x,.int .i64 y] ∧ h.readG ⟨b,o + i.toNat * 4 + 2,none⟩ 2 = some [.int .i64 z,.int .i64 w]:=by
 have hl:=p.len
 obtain ⟨b,o,h1,h2,h3⟩:=p.at h0 hi
 obtain ⟨q1,q2,q3,q4⟩:=q i h0 (by omega)
 exact ⟨b,o,(gt l i).un,(gt l i).ud,(gt l i).vn,(gt l i).vd,h1,h2,rfl,q1,q2,q3,q4,h3 0 4 (by omega) (by omega),h3 0 2 (by omega) (by omega),h3 2 2 (by omega) (by omega)⟩
def coordOK (n m k : Int) : Prop:=okF m k ∧ 0 ≤ m ∧ k ≤ 6 ∧ m < n * k
def spotOK (n : Int) (s : Sk) : Prop:=coordOK n s.un s.ud ∧ coordOK n s.vn s.vd
def spotsOK (n : Int) (l : List Sk) : Prop:=∀ i : Int,0 ≤ i → i < l.length → spotOK n (gt l i)
def CheckS (n : Int) (l : List Sk) (e : Int) : Prop:=((n < 2 ∨ 8 < n) ∧ e = 2) ∨ ((2 ≤ n ∧ n ≤ 8) ∧ 32 < l.length ∧ e = 4) ∨ ((2 ≤ n ∧ n ≤ 8) ∧ l.length ≤ 32 ∧ ¬ spotsOK n l ∧ e = 8) ∨ ((2 ≤ n ∧ n ≤ 8) ∧ l.length ≤ 32 ∧ spotsOK n l ∧ e = 0)
theorem CheckS.uniq {n : Int} {l : List Sk} {e f : Int} (h : CheckS n l e) (k : CheckS n l f) : e = f:=by
 rcases h with ⟨h,rfl⟩ | ⟨h,h1,rfl⟩ | ⟨h,h1,h2,rfl⟩ | ⟨h,h1,h2,rfl⟩ <;> rcases k with ⟨k,rfl⟩ | ⟨k,k1,rfl⟩ | ⟨k,k1,k2,rfl⟩ | ⟨k,k1,k2,rfl⟩ <;> first | rfl | omega | (exact absurd h2 k2) | (exact absurd k2 h2)
theorem CheckS.zero {n : Int} {l : List Sk} (h : CheckS n l 0) : (2 ≤ n ∧ n ≤ 8) ∧ l.length ≤ 32 ∧ spotsOK n l:=by
 rcases h with ⟨h,w⟩ | ⟨h,h1,w⟩ | ⟨h,h1,h2,w⟩ | ⟨h,h1,h2,w⟩
 ·omega
 ·omega
 ·omega
 ·exact ⟨h,h1,h2⟩
variable {F : Prims} {call head arith cmp scmp bnot bsame conv neg imax imin ofNat slen place inR nz geZ rd wr push next mkOK nat zeros sadd eqAgg cut slc sslc strAt part app cpy putAt fresh lowered bump wrote addN lt ne fpAll fpApp brk yn rng mget mput mnew bytes clr : _} (hA : AP F ⟨call,head,arith,cmp,scmp,bnot,bsame,conv,neg,imax,imin,ofNat,slen,place,inR,nz,geZ,rd,wr,push,next,mkOK,nat,zeros,sadd,eqAgg,cut,slc,sslc,strAt,part,app,cpy,putAt,fresh,lowered,bump,wrote,addN,lt,ne,fpAll,fpApp,brk,yn,rng,mget,mput,mnew,bytes,clr⟩)
include hA
theorem inside_ok {h : AHeap} (hlow : h.low ≤ h.next) {n m k : Int} (n0 : 2 ≤ n) (n1 : n ≤ 8) (hm : i64 m) (hk : i64 k) {Q : Value → AHeap → Prop}
  (hQ : ∀ (r : Bool) h',(r = true ↔ coordOK n m k) → Ext h h' → Q (.bool r) h') : call 29 [.int .i64 n,.agg #[.int .i64 m,.int .i64 k]] h Q:=by
 refine hA.bodyR Tryz.func29 r29_ok (hA.alike _ _ _ rfl) hlow (zc ?_)
 refine check_ok hA hlow hm hk (fun e h1 k1 x1 => ⟨_,rfl,?_⟩)
 refine zc ?_
 refine br (e ≠ 0) (by rw [e_neq hA]) (fun c => ?_) (fun c => ?_) <;> refine zc ?_
 ·refine hQ false h1 ⟨(fun w => by cases w),fun w => ?_⟩ x1
  rcases k1 with ⟨q,_⟩ | ⟨_,q⟩
  ·exact absurd q c
  ·exact absurd w.1 q
 have ok : okF m k:=by
  rcases k1 with ⟨_,q⟩ | ⟨q,_⟩
  ·exact q
  ·omega
 refine br (6 < k) (by rw [e_gtr hA]) (fun c1 => ?_) (fun c1 => ?_) <;> refine zc ?_
 ·exact hQ false h1 ⟨(fun w => by cases w),fun w => by have:=w.2.2.1;omega⟩ x1
 refine br (m < 0) (by rw [e_lss hA]) (fun c2 => ?_) (fun c2 => ?_) <;> refine zc ?_
 ·exact hQ false h1 ⟨(fun w => by cases w),fun w => by have:=w.2.1;omega⟩ x1
 refine cmp_ok hA (x1.lowOK hlow) hm hk (m:=n) (e:=1) (by unfold i64;omega) (by unfold i64;omega) (fun c r h2 k2 x2 => ⟨_,_,rfl,?_⟩)
 obtain ⟨hc,rfl⟩:=cmpIs_of ok.is (isF_int (n:=n) (by omega) (by omega)) k2
 refine zc ?_
 refine br True (by rw [e_eql hA];rfl) (fun _ => ?_) (fun q => absurd trivial q) <;> refine zc ?_
 refine hQ _ h2 ?_ (x1.trans x2)
 rw [e_lss hA,decide_eq_true_iff,hc,cmpF_lt,lt_int ok.is]
 exact ⟨fun w => ⟨ok,by omega,by omega,w⟩,fun w => w.2.2.2⟩
theorem coordinate_ok {h : AHeap} (hlow : h.low ≤ h.next) {n m k : Int} (n0 : 2 ≤ n) (n1 : n ≤ 8) (hm : i64 m) (hk : i64 k) {Q : Value → AHeap → Prop}
  (hQ : ∀ (r : Bool) h',(r = true ↔ coordOK n m k) → Ext h h' → Q (.bool r) h') : call 38 [.int .i64 n,.agg #[.int .i64 m,.int .i64 k]] h Q:=by
 obtain ⟨h9,hh9⟩ : ∃ z,z = bump h 20:=⟨_,rfl⟩
 have e9 : Ext h h9:=by rw [hh9];exact ext_bump hA _ _
 have l9:=e9.lowOK hlow
 refine hA.bodyR Tryz.func38 r38_ok (hA.alike _ _ _ rfl) hlow (zc ?_)
 rw [← hh9]
 refine rcheck_ok hA (low_fresh hA h9) hm hk (fun e h1 k1 x1 => ⟨_,rfl,?_⟩)
 obtain ⟨hX,hhX⟩ : ∃ z,z = lowered h9 h1:=⟨_,rfl⟩
 have eX : Ext h hX:=by rw [hhX];exact ext_low hA hlow e9 x1
 have lX:=eX.lowOK hlow
 refine zc ?_
 rw [← hhX]
 refine br (e = 0) (by rw [e_eql hA]) (fun c => ?_) (fun c => ?_) <;> refine zc ?_
 rotate_left
 ·refine hQ false hX ⟨(fun w => by cases w),fun w => ?_⟩ eX
  rcases k1 with ⟨q,_⟩ | ⟨_,q⟩
  ·exact absurd q c
  ·exact absurd w.1 q
 have ok : okF m k:=by
  rcases k1 with ⟨_,q⟩ | ⟨q,_⟩
  ·exact q
  ·omega
 refine br (0 ≤ m) (by rw [e_geq hA]) (fun c1 => ?_) (fun c1 => ?_) <;> refine zc ?_
 rotate_left
 ·exact hQ false hX ⟨(fun w => by cases w),fun w => by have:=w.2.1;omega⟩ eX
 refine br (k ≤ 6) (by rw [e_leq hA]) (fun c2 => ?_) (fun c2 => ?_) <;> refine zc ?_
 rotate_left
 ·exact hQ false hX ⟨(fun w => by cases w),fun w => by have:=w.2.2.1;omega⟩ eX
 refine of_ok' hA (low_fresh hA hX) ⟨_,_,rfl,?_⟩
 refine zc ?_
 rw [low_same hA lX]
 refine rless_ok hA (low_fresh hA hX) ok.is (isF_int (n:=n) (by omega) (by omega)) (fun r h2 k2 x2 => ⟨_,rfl,?_⟩)
 obtain ⟨hY,hhY⟩ : ∃ z,z = lowered hX h2:=⟨_,rfl⟩
 have eY : Ext h hY:=by rw [hhY];exact ext_low hA hlow eX x2
 refine zc ?_
 rw [← hhY]
 refine hQ r hY ?_ eY
 rw [k2,lt_int ok.is]
 exact ⟨fun w => ⟨ok,by omega,by omega,w⟩,fun w => w.2.2.2⟩
theorem kcheck_loop {h0 : AHeap} (hlow : h0.low ≤ h0.next) {a : Option Addr} {N c : Nat} {l : List Sk} (hl : Sps h0 a N l) (hi : allS l) (hN : N ≤ 32) {n : Int} (n0 : 2 ≤ n) (n1 : n ≤ 8) {Q : Exit → SS → Prop}
  (hbad : ∀ h' e kn K,¬ spotsOK n l → Ext h0 h' → Q .ret ⟨(4,.int .i64 8) :: e,kn,K,h'⟩) (hok : ∀ h' kn e K,spotsOK n l → Ext h0 h' → Q (.exit 0) ⟨e,kn,K,h'⟩) :
  ∀ (m : Nat) (i : Int) (h : AHeap),(N - i).toNat ≤ m → 0 ≤ i → i ≤ N → (∀ j : Int,0 ≤ j → j < i → spotOK n (gt l j)) → Ext h0 h →
   head 14 6 0 ⟨[(0,.int .i64 n),(16,.slice a N c),(17,.int .i64 N),(18,.int .i64 i)],0,[],h⟩ Q:=by
 have hlen:=hl.len
 intro m
 induction m with
 | zero =>
  intro i h hm i0 i1 hall he
  refine hA.roundR Tryz.func14 r14_ok (zc ?_)
  refine br (i < N) (by rw [e_lss hA];rfl) (fun c1 => by omega) (fun c1 => ?_) <;> refine zc ?_
  exact hok h _ _ _ (fun j j0 j1 => hall j j0 (by omega)) he
 | succ m ih =>
 intro i h hm i0 i1 hall he
 by_cases ci : i < N
 rotate_left
 ·refine hA.roundR Tryz.func14 r14_ok (zc ?_)
  refine br (i < N) (by rw [e_lss hA];rfl) (fun c1 => absurd c1 ci) (fun c1 => ?_) <;> refine zc ?_
  exact hok h _ _ _ (fun j j0 j1 => hall j j0 (by omega)) he
 obtain ⟨b,o,x,y,z,w,ea,_,hg,ix,iy,iz,iw,r1,r2,r3⟩:=sp_at (hl.ext he) hi (i:=i) i0 ci
 cases ea
 have q1:=rd_ok hA r1
 refine hA.roundR Tryz.func14 r14_ok (zc ?_)
 refine br (i < N) (by rw [e_lss hA];rfl) (fun c1 => ?_) (fun c1 => absurd ci c1) <;> refine zc ?_
 refine zq ?_
 refine inside_ok hA (he.lowOK hlow) n0 n1 ix iy (fun f1 h1 k1 x1 => ⟨_,rfl,?_⟩)
 have y1:=he.trans x1
 refine zc ?_
 refine br (f1 = false) (by rw [e_bnot hA];cases f1 <;> rfl) (fun c3 => ?_) (fun c3 => ?_) <;> refine zc ?_
 ·refine hbad h1 _ _ _ (fun w => ?_) y1
  have:=(w i i0 (by omega)).1
  rw [hg] at this
  have:=k1.2 this
  rw [c3] at this;cases this
 have ok1:=k1.1 (by cases f1 with | true => rfl | false => exact absurd rfl c3)
 refine inside_ok hA (y1.lowOK hlow) n0 n1 iz iw (fun f2 h2 k2 x2 => ⟨_,rfl,?_⟩)
 have y2:=y1.trans x2
 refine zc ?_
 refine br (f2 = false) (by rw [e_bnot hA];cases f2 <;> rfl) (fun c3 => ?_) (fun c3 => ?_) <;> refine zc ?_
 ·refine hbad h2 _ _ _ (fun w => ?_) y2
  have:=(w i i0 (by omega)).2
  rw [hg] at this
  have:=k2.2 this
  rw [c3] at this;cases this
 have ok2:=k2.1 (by cases f2 with | true => rfl | false => exact absurd rfl c3)
 rw [add64 hA (by omega) (by omega)]
 refine ih (i + 1) h2 (by omega) (by omega) (by omega) (fun j j0 j1 => ?_) y2
 by_cases z : j = i
 ·subst z;rw [hg];exact ⟨ok1,ok2⟩
 ·exact hall j j0 (by omega)
theorem kcheck_ok {h : AHeap} (hlow : h.low ≤ h.next) {a : Option Addr} {N c : Nat} {l : List Sk} (hl : Sps h a N l) (hi : allS l) {n : Int} {Q : Value → AHeap → Prop}
  (hQ : ∀ e h',CheckS n l e → Ext h h' → Q (.int .i64 e) h') : call 14 [.int .i64 n,.slice a N c] h Q:=by
 have hlen:=hl.len
 refine hA.bodyR Tryz.func14 r14_ok (hA.alike _ _ _ rfl) hlow (zc ?_)
 refine br (n < 2) (by rw [e_lss hA]) (fun c1 => ?_) (fun c1 => ?_) <;> refine zc ?_
 ·exact hQ _ h (.inl ⟨.inl c1,rfl⟩) (.refl h)
 refine br (8 < n) (by rw [e_gtr hA]) (fun c2 => ?_) (fun c2 => ?_) <;> refine zc ?_
 ·exact hQ _ h (.inl ⟨.inr c2,rfl⟩) (.refl h)
 refine br (32 < (N : Int)) (by rw [e_gtr hA,e_ofNat hA]) (fun c3 => ?_) (fun c3 => ?_) <;> refine zc ?_
 ·exact hQ _ h (.inr (.inl ⟨by omega,by omega,rfl⟩)) (.refl h)
 rw [e_ofNat hA]
 refine kcheck_loop hA hlow hl hi (by omega) (by omega) (by omega) (fun h' e kn K hg x' => ?_) (fun h' kn e K hg x' => ?_) N 0 h (by omega) (by omega) (by omega) (fun j j0 j1 => by omega) (.refl h)
 ·refine zc ?_
  exact hQ _ h' (.inr (.inr (.inl ⟨by omega,by omega,hg,rfl⟩))) x'
 ·refine zc ?_
  exact hQ _ h' (.inr (.inr (.inr ⟨by omega,by omega,hg,rfl⟩))) x'
theorem rkcheck_loop {h0 : AHeap} (hlow : h0.low ≤ h0.next) {a : Option Addr} {N c : Nat} {l : List Sk} (hl : Sps h0 a N l) (hi : allS l) (hN : N ≤ 32) {n : Int} (n0 : 2 ≤ n) (n1 : n ≤ 8) {Q : Exit → SS → Prop}
  (hbad : ∀ h' e kn K,¬ spotsOK n l → Ext h0 h' → Q .ret ⟨(4,.int .i64 8) :: e,kn,K,h'⟩) (hok : ∀ h' kn e K,spotsOK n l → Ext h0 h' → Q (.exit 0) ⟨e,kn,K,h'⟩) :
  ∀ (m : Nat) (i : Int) (h : AHeap),(N - i).toNat ≤ m → 0 ≤ i → i ≤ N → (∀ j : Int,0 ≤ j → j < i → spotOK n (gt l j)) → Ext h0 h →
   head 19 6 0 ⟨[(0,.int .i64 n),(1,.slice a N c),(5,.int .i64 i)],0,[],h⟩ Q:=by
 have hlen:=hl.len
 intro m
 induction m with
 | zero =>
  intro i h hm i0 i1 hall he
  refine hA.roundR Tryz.func19 r19_ok (zc ?_)
  refine br (i < N) (by rw [e_lss hA,e_ofNat hA]) (fun c1 => by omega) (fun c1 => ?_) <;> refine zc ?_
  exact hok h _ _ _ (fun j j0 j1 => hall j j0 (by omega)) he
 | succ m ih =>
 intro i h hm i0 i1 hall he
 by_cases ci : i < N
 rotate_left
 ·refine hA.roundR Tryz.func19 r19_ok (zc ?_)
  refine br (i < N) (by rw [e_lss hA,e_ofNat hA]) (fun c1 => absurd c1 ci) (fun c1 => ?_) <;> refine zc ?_
  exact hok h _ _ _ (fun j j0 j1 => hall j j0 (by omega)) he
 obtain ⟨b,o,x,y,z,w,ea,_,hg,ix,iy,iz,iw,r1,r2,r3⟩:=sp_at (hl.ext he) hi (i:=i) i0 ci
 cases ea
 have q1:=rd_fld hA r2
 have hl1:=hl.ext he
 refine hA.roundR Tryz.func19 r19_ok (zc ?_)
 refine br (i < N) (by rw [e_lss hA,e_ofNat hA]) (fun c1 => ?_) (fun c1 => absurd ci c1) <;> refine zc ?_
 refine zq ?_
 refine coordinate_ok hA (he.lowOK hlow) n0 n1 ix iy (fun f1 h1 k1 x1 => ⟨_,rfl,?_⟩)
 have y1:=he.trans x1
 refine zc ?_
 refine br (f1 = false) (by rw [e_bnot hA];cases f1 <;> rfl) (fun c3 => ?_) (fun c3 => ?_) <;> refine zc ?_
 ·refine hbad h1 _ _ _ (fun w => ?_) y1
  have:=(w i i0 (by omega)).1
  rw [hg] at this
  have:=k1.2 this
  rw [c3] at this;cases this
 have ok1:=k1.1 (by cases f1 with | true => rfl | false => exact absurd rfl c3)
 obtain ⟨_,_,_,_,_,_,ea,_,hg2,_,_,_,_,_,_,r3'⟩:=sp_at (hl.ext y1) hi (i:=i) i0 ci
 cases ea
 rw [hg] at hg2
 cases hg2
 have q2:=rd_fld hA r3'
 refine zq ?_
 refine coordinate_ok hA (y1.lowOK hlow) n0 n1 iz iw (fun f2 h2 k2 x2 => ⟨_,rfl,?_⟩)
 have y2:=y1.trans x2
 refine zc ?_
 refine br (f2 = false) (by rw [e_bnot hA];cases f2 <;> rfl) (fun c3 => ?_) (fun c3 => ?_) <;> refine zc ?_
 ·refine hbad h2 _ _ _ (fun w => ?_) y2
  have:=(w i i0 (by omega)).2
  rw [hg] at this
  have:=k2.2 this
  rw [c3] at this;cases this
 have ok2:=k2.1 (by cases f2 with | true => rfl | false => exact absurd rfl c3)
 rw [add64 hA (by omega) (by omega)]
 refine ih (i + 1) h2 (by omega) (by omega) (by omega) (fun j j0 j1 => ?_) y2
 by_cases z : j = i
 ·subst z;rw [hg];exact ⟨ok1,ok2⟩
 ·exact hall j j0 (by omega)
theorem rkcheck_ok {h : AHeap} (hlow : h.low ≤ h.next) {a : Option Addr} {N c : Nat} {l : List Sk} (hl : Sps h a N l) (hi : allS l) {n : Int} {Q : Value → AHeap → Prop}
  (hQ : ∀ e h',CheckS n l e → Ext h h' → Q (.int .i64 e) h') : call 19 [.int .i64 n,.slice a N c] h Q:=by
 have hlen:=hl.len
 refine hA.bodyR Tryz.func19 r19_ok (hA.alike _ _ _ rfl) hlow (zc ?_)
 refine br (n < 2) (by rw [e_lss hA]) (fun c1 => ?_) (fun c1 => ?_) <;> refine zc ?_
 ·exact hQ _ h (.inl ⟨.inl c1,rfl⟩) (.refl h)
 refine br (8 < n) (by rw [e_gtr hA]) (fun c2 => ?_) (fun c2 => ?_) <;> refine zc ?_
 ·exact hQ _ h (.inl ⟨.inr c2,rfl⟩) (.refl h)
 refine br (32 < (N : Int)) (by rw [e_gtr hA,e_ofNat hA]) (fun c3 => ?_) (fun c3 => ?_) <;> refine zc ?_
 ·exact hQ _ h (.inr (.inl ⟨by omega,by omega,rfl⟩)) (.refl h)
 refine rkcheck_loop hA hlow hl hi (by omega) (by omega) (by omega) (fun h' e kn K hg x' => ?_) (fun h' kn e K hg x' => ?_) N 0 h (by omega) (by omega) (by omega) (fun j j0 j1 => by omega) (.refl h)
 ·refine zc ?_
  exact hQ _ h' (.inr (.inr (.inl ⟨by omega,by omega,hg,rfl⟩))) x'
 ·refine zc ?_
  exact hQ _ h' (.inr (.inr (.inr ⟨by omega,by omega,hg,rfl⟩))) x'
end Go.Proofs.YtkbgkjlgnmlghaaGreat
