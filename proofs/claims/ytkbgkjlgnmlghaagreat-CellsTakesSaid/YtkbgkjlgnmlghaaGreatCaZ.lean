import Derived.Test.YtkbgkjlgnmlghaaGreatCaW
set_option linter.unusedSimpArgs false
set_option linter.unusedVariables false
namespace Go.Proofs.YtkbgkjlgnmlghaaGreat
open Go.Sim
set_option linter.unusedVariables false
set_option maxRecDepth 100000
def rowsOK (N : Nat) (g : Gd) : Prop:=∀ y : Int,0 ≤ y → y < N → (gt g y).length = N
def allV (N : Nat) (g : Gd) : Prop:=∀ y : Int,0 ≤ y → y < N → ValidL (gt g y)
def SqE (N : Nat) (g : Gd) (e : Int) : Prop:=((N < 2 ∨ 8 < N ∨ ¬ rowsOK N g) ∧ e = 2) ∨ ((2 ≤ N ∧ N ≤ 8 ∧ rowsOK N g) ∧ ¬ allV N g ∧ e = 8) ∨ ((2 ≤ N ∧ N ≤ 8 ∧ rowsOK N g) ∧ allV N g ∧ e = 0)
theorem SqE.uniq {N : Nat} {g : Gd} {e e' : Int} (h : SqE N g e) (k : SqE N g e') : e = e':=by
 rcases h with ⟨a,b⟩ | ⟨⟨a1,a2,a3⟩,b,c⟩ | ⟨⟨a1,a2,a3⟩,b,c⟩ <;> rcases k with ⟨a',b'⟩ | ⟨⟨a1',a2',a3'⟩,b',c'⟩ | ⟨⟨a1',a2',a3'⟩,b',c'⟩
 ·omega
 ·exact absurd a3' (by rcases a with q | q | q <;> first | omega | exact q)
 ·exact absurd a3' (by rcases a with q | q | q <;> first | omega | exact q)
 ·exact absurd a3 (by rcases a' with q | q | q <;> first | omega | exact q)
 ·omega
 ·exact absurd b' b
 ·exact absurd a3 (by rcases a' with q | q | q <;> first | omega | exact q)
 ·exact absurd b b'
 ·omega
theorem SqE.zero {N : Nat} {g : Gd} {e : Int} (h : SqE N g e) (lg : g.length = N) (e0 : e = 0) : 2 ≤ N ∧ N ≤ 8 ∧ SqG N g:=by
 rcases h with ⟨a,b⟩ | ⟨_,_,c⟩ | ⟨⟨a1,a2,a3⟩,b,c⟩
 ·omega
 ·omega
 ·exact ⟨a1,a2,lg,a3,fun y x y0 y1 x0 x1 => b y y0 y1 x x0 (by rw [a3 y y0 y1];exact x1)⟩
variable {F : Prims} {call head arith cmp scmp bnot bsame conv neg imax imin ofNat slen place inR nz geZ rd wr push next mkOK nat zeros sadd eqAgg cut slc sslc strAt part app cpy putAt fresh lowered bump wrote addN lt ne fpAll fpApp brk yn rng mget mput mnew bytes clr : _} (hA : AP F ⟨call,head,arith,cmp,scmp,bnot,bsame,conv,neg,imax,imin,ofNat,slen,place,inR,nz,geZ,rd,wr,push,next,mkOK,nat,zeros,sadd,eqAgg,cut,slc,sslc,strAt,part,app,cpy,putAt,fresh,lowered,bump,wrote,addN,lt,ne,fpAll,fpApp,brk,yn,rng,mget,mput,mnew,bytes,clr⟩)
include hA
theorem gg_loop {h0 : AHeap} (hlow : h0.low ≤ h0.next) {a : Option Addr} {N c : Nat} {hs : List Hd} {g : Gd} (hN : N ≤ 9223372036854775807) (t : GridRd h0 a N hs g) {Q : Exit → SS → Prop}
  (hbad : ∀ h' e kn K,Ext h0 h' → Q .ret ⟨(2,.bool true) :: e,kn,K,h'⟩)
  (hok : ∀ h',(∀ y : Int,0 ≤ y → y < N → (gt hs y).n ≤ 20) → Ext h0 h' → Q (.exit 0) ⟨[(0,.slice a N c)],0,[],h'⟩) :
  ∀ (m : Nat) (i : Int) (h : AHeap),(N - i).toNat ≤ m → 0 ≤ i → i ≤ N → (∀ y : Int,0 ≤ y → y < i → (gt hs y).n ≤ 20) → Ext h0 h →
   head 4 2 0 ⟨[(0,.slice a N c),(3,.int .i64 i)],0,[],h⟩ Q:=by
 intro m
 induction m with
 | zero =>
  intro i h hm i0 i1 hall he
  refine hA.roundR Tryz.func4 r4_ok (zc ?_)
  refine br (i < N) (by rw [e_lss hA,e_ofNat hA]) (fun c1 => by omega) (fun c1 => ?_) <;> refine zc ?_
  exact hok h (fun y y0 y1 => hall y y0 (by omega)) he
 | succ m ih =>
 intro i h hm i0 i1 hall he
 by_cases ci : i < N
 rotate_left
 ·refine hA.roundR Tryz.func4 r4_ok (zc ?_)
  refine br (i < N) (by rw [e_lss hA,e_ofNat hA]) (fun c1 => by omega) (fun c1 => ?_) <;> refine zc ?_
  exact hok h (fun y y0 y1 => hall y y0 (by omega)) he
 obtain ⟨b,o,rfl,_⟩:=grid_some t (by omega)
 have d1:=head_rd hA (t.ext he) i0 ci
 generalize hrn : (gt hs i).n = rn at *
 generalize (gt hs i).a = ra at *
 generalize (gt hs i).c = rc at *
 refine hA.roundR Tryz.func4 r4_ok (zc ?_)
 refine br (i < N) (by rw [e_lss hA,e_ofNat hA]) (fun c1 => ?_) (fun c1 => by omega) <;> refine zc ?_
 refine zq ?_
 refine br (20 < (rn : Int)) (by rw [e_gtr hA,e_ofNat hA]) (fun q => ?_) (fun q => ?_) <;> refine zc ?_
 ·exact hbad h _ _ _ he
 rw [add64 hA (by omega) (by omega)]
 refine ih (i + 1) h (by omega) (by omega) (by omega) (fun y y0 y1 => ?_) he
 by_cases e : y = i
 ·rw [e,hrn];omega
 ·exact hall y y0 (by omega)
theorem greatGrid_ok {h : AHeap} (hlow : h.low ≤ h.next) {a : Option Addr} {N c : Nat} {hs : List Hd} {g : Gd} (hN : N ≤ 9223372036854775807) (t : GridRd h a N hs g) {Q : Value → AHeap → Prop}
  (hQ : ∀ (r : Bool) h',(r = false → N ≤ 20 ∧ ∀ y : Int,0 ≤ y → y < N → (gt hs y).n ≤ 20) → Ext h h' → Q (.bool r) h') : call 4 [.slice a N c] h Q:=by
 refine hA.bodyR Tryz.func4 r4_ok (hA.alike _ _ _ rfl) hlow (zc ?_)
 refine gg_loop hA hlow hN t (fun h' e kn K x' => ?_) (fun h' hall x' => ?_) N 0 h (by omega) (by omega) (by omega) (fun y y0 y1 => by omega) (.refl h)
 ·refine zc ?_
  exact hQ true h' (fun q => by cases q) x'
 ·refine zc ?_
  rw [e_gtr hA,e_ofNat hA]
  exact hQ _ h' (fun q => ⟨by have:=of_decide_eq_false q;omega,hall⟩) x'
theorem sqg_one {h0 : AHeap} (hlow : h0.low ≤ h0.next) {b o N c : Nat} {hs : List Hd} {g : Gd} (hN : N ≤ 8) (t : GridRd h0 (some ⟨b,o,none⟩) N hs g) {Q : Exit → SS → Prop}
  (hbad : ∀ h' e kn K,¬ rowsOK N g → Ext h0 h' → Q .ret ⟨(2,.int .i64 2) :: e,kn,K,h'⟩)
  (hok : ∀ h',(∀ y : Int,0 ≤ y → y < N → (gt hs y).n = N) → Ext h0 h' → Q (.exit 0) ⟨[(0,.slice (some ⟨b,o,none⟩) N c)],0,[],h'⟩) :
  ∀ (m : Nat) (i : Int) (h : AHeap),(N - i).toNat ≤ m → 0 ≤ i → i ≤ N → (∀ y : Int,0 ≤ y → y < i → (gt hs y).n = N) → Ext h0 h →
   head 18 4 0 ⟨[(0,.slice (some ⟨b,o,none⟩) N c),(3,.int .i64 i)],0,[],h⟩ Q:=by
 intro m
 induction m with
 | zero =>
  intro i h hm i0 i1 hall he
  refine hA.roundR Tryz.func18 r18_ok (zc ?_)
  refine br (i < N) (by rw [e_lss hA,e_ofNat hA]) (fun c1 => by omega) (fun c1 => ?_) <;> refine zc ?_
  exact hok h (fun y y0 y1 => hall y y0 (by omega)) he
 | succ m ih =>
 intro i h hm i0 i1 hall he
 by_cases ci : i < N
 rotate_left
 ·refine hA.roundR Tryz.func18 r18_ok (zc ?_)
  refine br (i < N) (by rw [e_lss hA,e_ofNat hA]) (fun c1 => by omega) (fun c1 => ?_) <;> refine zc ?_
  exact hok h (fun y y0 y1 => hall y y0 (by omega)) he
 have d1:=head_rd hA (t.ext he) i0 ci
 have rL:=t.rowL i i0 ci
 generalize hrn : (gt hs i).n = rn at *
 generalize (gt hs i).a = ra at *
 generalize (gt hs i).c = rc at *
 refine hA.roundR Tryz.func18 r18_ok (zc ?_)
 refine br (i < N) (by rw [e_lss hA,e_ofNat hA]) (fun c1 => ?_) (fun c1 => by omega) <;> refine zc ?_
 refine zq ?_
 refine br ((rn : Int) ≠ N) (by rw [e_neq hA,e_ofNat hA,e_ofNat hA]) (fun q => ?_) (fun q => ?_) <;> refine zc ?_
 ·exact hbad h _ _ _ (fun w => q (by have:=w i i0 ci;omega)) he
 rw [add64 hA (by omega) (by omega)]
 refine ih (i + 1) h (by omega) (by omega) (by omega) (fun y y0 y1 => ?_) he
 by_cases e : y = i
 ·rw [e,hrn];omega
 ·exact hall y y0 (by omega)
theorem sqg_two {h0 : AHeap} (hlow : h0.low ≤ h0.next) {b o N c : Nat} {hs : List Hd} {g : Gd} (hN : N ≤ 8) (t : GridRd h0 (some ⟨b,o,none⟩) N hs g) (rows : ∀ y : Int,0 ≤ y → y < N → (gt hs y).n = N) {Q : Exit → SS → Prop}
  (hbad : ∀ h' e kn K,¬ allV N g → Ext h0 h' → Q .ret ⟨(2,.int .i64 8) :: e,kn,K,h'⟩)
  (hok : ∀ h',(∀ y : Int,0 ≤ y → y < N → ValidL (gt g y)) → Ext h0 h' → Q (.exit 2) ⟨[],0,[],h'⟩) :
  ∀ (m : Nat) (i : Int) (h : AHeap),(N - i).toNat ≤ m → 0 ≤ i → i ≤ N → (∀ y : Int,0 ≤ y → y < i → ValidL (gt g y)) → Ext h0 h →
   head 18 9 0 ⟨[(0,.slice (some ⟨b,o,none⟩) N c),(4,.int .i64 i)],0,[],h⟩ Q:=by
 intro m
 induction m with
 | zero =>
  intro i h hm i0 i1 hall he
  refine hA.roundR Tryz.func18 r18_ok (zc ?_)
  refine br (i < N) (by rw [e_lss hA,e_ofNat hA]) (fun c1 => by omega) (fun c1 => ?_) <;> refine zc ?_
  exact hok h (fun y y0 y1 => hall y y0 (by omega)) he
 | succ m ih =>
 intro i h hm i0 i1 hall he
 by_cases ci : i < N
 rotate_left
 ·refine hA.roundR Tryz.func18 r18_ok (zc ?_)
  refine br (i < N) (by rw [e_lss hA,e_ofNat hA]) (fun c1 => by omega) (fun c1 => ?_) <;> refine zc ?_
  exact hok h (fun y y0 y1 => hall y y0 (by omega)) he
 have d1:=head_rd hA (t.ext he) i0 ci
 have rr:=(t.ext he).rowS i i0 ci (by rw [rows i i0 ci];omega)
 rw [rows i i0 ci] at d1 rr
 generalize (gt hs i).a = ra at *
 generalize (gt hs i).c = rc at *
 refine hA.roundR Tryz.func18 r18_ok (zc ?_)
 refine br (i < N) (by rw [e_lss hA,e_ofNat hA]) (fun c1 => ?_) (fun c1 => by omega) <;> refine zc ?_
 refine zq ?_
 refine rvalid_ok hA (he.lowOK hlow) rr (by omega) (fun r h2 k2 x2 => ⟨_,rfl,?_⟩)
 have y2:=he.trans x2
 cases r with
 | false =>
  refine zc ?_
  rw [show bnot false = true by rw [e_bnot hA];rfl]
  refine zc ?_
  exact hbad h2 _ _ _ (fun w => by have:=k2.2 (w i i0 ci);cases this) y2
 | true =>
 refine zc ?_
 rw [show bnot true = false by rw [e_bnot hA];rfl]
 refine zc ?_
 rw [add64 hA (by omega) (by omega)]
 refine ih (i + 1) h2 (by omega) (by omega) (by omega) (fun y y0 y1 => ?_) y2
 by_cases e : y = i
 ·rw [e];exact k2.1 rfl
 ·exact hall y y0 (by omega)
theorem square_gen {h : AHeap} (hlow : h.low ≤ h.next) {a : Option Addr} {N c : Nat} {hs : List Hd} {g : Gd} (t : GridRd h a N hs g) {Q : Value → AHeap → Prop}
  (hQ : ∀ (e : Int) h',SqE N g e → Ext h h' → Q (.int .i64 e) h') : call 18 [.slice a N c] h Q:=by
 refine hA.bodyR Tryz.func18 r18_ok (hA.alike _ _ _ rfl) hlow (zc ?_)
 refine br ((N : Int) < 2) (by rw [e_lss hA,e_ofNat hA]) (fun q => ?_) (fun n2 => ?_) <;> refine zc ?_
 ·exact hQ 2 h (.inl ⟨.inl (by omega),rfl⟩) (.refl h)
 refine br (8 < (N : Int)) (by rw [e_gtr hA,e_ofNat hA]) (fun q => ?_) (fun n8 => ?_) <;> refine zc ?_
 ·exact hQ 2 h (.inl ⟨.inr (.inl (by omega)),rfl⟩) (.refl h)
 obtain ⟨b,o,rfl,_⟩:=grid_some t (by omega)
 refine sqg_one hA hlow (by omega) t (fun h' e kn K w x' => ?_) (fun h1 rows x1 => ?_) N 0 h (by omega) (by omega) (by omega) (fun y y0 y1 => by omega) (.refl h)
 ·refine zc ?_
  exact hQ 2 h' (.inl ⟨.inr (.inr w),rfl⟩) x'
 have rows2 : rowsOK N g:=fun y y0 y1 => by rw [t.rowL y y0 y1];exact rows y y0 y1
 refine zc ?_
 refine sqg_two hA (x1.lowOK hlow) (by omega) (t.ext x1) rows (fun h' e kn K w x' => ?_) (fun h2 val x2 => ?_) N 0 h1 (by omega) (by omega) (by omega) (fun y y0 y1 => by omega) (.refl h1)
 ·refine zc ?_
  exact hQ 8 h' (.inr (.inl ⟨⟨by omega,by omega,rows2⟩,w,rfl⟩)) (x1.trans x')
 refine zc ?_
 exact hQ 0 h2 (.inr (.inr ⟨⟨by omega,by omega,rows2⟩,val,rfl⟩)) (x1.trans x2)
theorem cgg_one {h0 : AHeap} (hlow : h0.low ≤ h0.next) {b o N c : Nat} {hs : List Hd} {g : Gd} (hN : N ≤ 8) (t : GridRd h0 (some ⟨b,o,none⟩) N hs g) {NN : Int} (hNN : NN = N) {Q : Exit → SS → Prop}
  (hbad : ∀ h' e kn K,¬ rowsOK N g → Ext h0 h' → Q .ret ⟨(2,.int .i64 2) :: e,kn,K,h'⟩)
  (hok : ∀ h',(∀ y : Int,0 ≤ y → y < N → (gt hs y).n = N) → Ext h0 h' → Q (.exit 0) ⟨[(0,.slice (some ⟨b,o,none⟩) N c)],0,[],h'⟩) :
  ∀ (m : Nat) (i : Int) (h : AHeap),(N - i).toNat ≤ m → 0 ≤ i → i ≤ N → (∀ y : Int,0 ≤ y → y < i → (gt hs y).n = N) → Ext h0 h →
   head 13 4 0 ⟨[(0,.slice (some ⟨b,o,none⟩) N c),(15,.slice (some ⟨b,o,none⟩) N c),(16,.int .i64 NN),(17,.int .i64 i)],0,[],h⟩ Q:=by
 intro m
 induction m with
 | zero =>
  intro i h hm i0 i1 hall he
  refine hA.roundR Tryz.func13 r13_ok (zc ?_)
  refine br (i < NN) (by rw [e_lss hA]) (fun c1 => by omega) (fun c1 => ?_) <;> refine zc ?_
  exact hok h (fun y y0 y1 => hall y y0 (by omega)) he
 | succ m ih =>
 intro i h hm i0 i1 hall he
 by_cases ci : i < N
 rotate_left
 ·refine hA.roundR Tryz.func13 r13_ok (zc ?_)
  refine br (i < NN) (by rw [e_lss hA]) (fun c1 => by omega) (fun c1 => ?_) <;> refine zc ?_
  exact hok h (fun y y0 y1 => hall y y0 (by omega)) he
 have d1:=head_rd hA (t.ext he) i0 ci
 have rL:=t.rowL i i0 ci
 generalize hrn : (gt hs i).n = rn at *
 generalize (gt hs i).a = ra at *
 generalize (gt hs i).c = rc at *
 refine hA.roundR Tryz.func13 r13_ok (zc ?_)
 refine br (i < NN) (by rw [e_lss hA]) (fun c1 => ?_) (fun c1 => by omega) <;> refine zc ?_
 refine zq ?_
 refine br ((rn : Int) ≠ N) (by rw [e_neq hA,e_ofNat hA,e_ofNat hA]) (fun q => ?_) (fun q => ?_) <;> refine zc ?_
 ·exact hbad h _ _ _ (fun w => q (by have:=w i i0 ci;omega)) he
 rw [add64 hA (by omega) (by omega)]
 refine ih (i + 1) h (by omega) (by omega) (by omega) (fun y y0 y1 => ?_) he
 by_cases e : y = i
 ·rw [e,hrn];omega
 ·exact hall y y0 (by omega)
theorem cgg_two {h0 : AHeap} (hlow : h0.low ≤ h0.next) {b o N c : Nat} {hs : List Hd} {g : Gd} (hN : N ≤ 8) (t : GridRd h0 (some ⟨b,o,none⟩) N hs g) (rows : ∀ y : Int,0 ≤ y → y < N → (gt hs y).n = N) {NN : Int} (hNN : NN = N) {Q : Exit → SS → Prop}
  (hbad : ∀ h' e kn K,¬ allV N g → Ext h0 h' → Q .ret ⟨(2,.int .i64 8) :: e,kn,K,h'⟩)
  (hok : ∀ h',(∀ y : Int,0 ≤ y → y < N → ValidL (gt g y)) → Ext h0 h' → Q (.exit 2) ⟨[],0,[],h'⟩) :
  ∀ (m : Nat) (i : Int) (h : AHeap),(N - i).toNat ≤ m → 0 ≤ i → i ≤ N → (∀ y : Int,0 ≤ y → y < i → ValidL (gt g y)) → Ext h0 h →
   head 13 10 0 ⟨[(27,.slice (some ⟨b,o,none⟩) N c),(28,.int .i64 NN),(29,.int .i64 i)],0,[],h⟩ Q:=by
 intro m
 induction m with
 | zero =>
  intro i h hm i0 i1 hall he
  refine hA.roundR Tryz.func13 r13_ok (zc ?_)
  refine br (i < NN) (by rw [e_lss hA]) (fun c1 => by omega) (fun c1 => ?_) <;> refine zc ?_
  exact hok h (fun y y0 y1 => hall y y0 (by omega)) he
 | succ m ih =>
 intro i h hm i0 i1 hall he
 by_cases ci : i < N
 rotate_left
 ·refine hA.roundR Tryz.func13 r13_ok (zc ?_)
  refine br (i < NN) (by rw [e_lss hA]) (fun c1 => by omega) (fun c1 => ?_) <;> refine zc ?_
  exact hok h (fun y y0 y1 => hall y y0 (by omega)) he
 have d1:=head_rd hA (t.ext he) i0 ci
 have rr:=(t.ext he).rowS i i0 ci (by rw [rows i i0 ci];omega)
 rw [rows i i0 ci] at d1 rr
 generalize (gt hs i).a = ra at *
 generalize (gt hs i).c = rc at *
 refine hA.roundR Tryz.func13 r13_ok (zc ?_)
 refine br (i < NN) (by rw [e_lss hA]) (fun c1 => ?_) (fun c1 => by omega) <;> refine zc ?_
 refine zq ?_
 refine kvalid_ok hA (he.lowOK hlow) rr (by omega) (fun r h2 k2 x2 => ⟨_,rfl,?_⟩)
 have y2:=he.trans x2
 cases r with
 | false =>
  refine zc ?_
  rw [show bnot false = true by rw [e_bnot hA];rfl]
  refine zc ?_
  exact hbad h2 _ _ _ (fun w => by have:=k2.2 (w i i0 ci);cases this) y2
 | true =>
 refine zc ?_
 rw [show bnot true = false by rw [e_bnot hA];rfl]
 refine zc ?_
 rw [add64 hA (by omega) (by omega)]
 refine ih (i + 1) h2 (by omega) (by omega) (by omega) (fun y y0 y1 => ?_) y2
 by_cases e : y = i
 ·rw [e];exact k2.1 rfl
 ·exact hall y y0 (by omega)
theorem check_gen {h : AHeap} (hlow : h.low ≤ h.next) {a : Option Addr} {N c : Nat} {hs : List Hd} {g : Gd} (t : GridRd h a N hs g) {Q : Value → AHeap → Prop}
  (hQ : ∀ (e : Int) h',SqE N g e → Ext h h' → Q (.int .i64 e) h') : call 13 [.slice a N c] h Q:=by
 refine hA.bodyR Tryz.func13 r13_ok (hA.alike _ _ _ rfl) hlow (zc ?_)
 refine br ((N : Int) < 2) (by rw [e_lss hA,e_ofNat hA]) (fun q => ?_) (fun n2 => ?_) <;> refine zc ?_
 ·exact hQ 2 h (.inl ⟨.inl (by omega),rfl⟩) (.refl h)
 refine br (8 < (N : Int)) (by rw [e_gtr hA,e_ofNat hA]) (fun q => ?_) (fun n8 => ?_) <;> refine zc ?_
 ·exact hQ 2 h (.inl ⟨.inr (.inl (by omega)),rfl⟩) (.refl h)
 obtain ⟨b,o,rfl,_⟩:=grid_some t (by omega)
 refine cgg_one hA hlow (by omega) t (e_ofNat hA N) (fun h' e kn K w x' => ?_) (fun h1 rows x1 => ?_) N 0 h (by omega) (by omega) (by omega) (fun y y0 y1 => by omega) (.refl h)
 ·refine zc ?_
  exact hQ 2 h' (.inl ⟨.inr (.inr w),rfl⟩) x'
 have rows2 : rowsOK N g:=fun y y0 y1 => by rw [t.rowL y y0 y1];exact rows y y0 y1
 refine zc ?_
 refine cgg_two hA (x1.lowOK hlow) (by omega) (t.ext x1) rows (e_ofNat hA N) (fun h' e kn K w x' => ?_) (fun h2 val x2 => ?_) N 0 h1 (by omega) (by omega) (by omega) (fun y y0 y1 => by omega) (.refl h1)
 ·refine zc ?_
  exact hQ 8 h' (.inr (.inl ⟨⟨by omega,by omega,rows2⟩,w,rfl⟩)) (x1.trans x')
 refine zc ?_
 exact hQ 0 h2 (.inr (.inr ⟨⟨by omega,by omega,rows2⟩,val,rfl⟩)) (x1.trans x2)
end Go.Proofs.YtkbgkjlgnmlghaaGreat
