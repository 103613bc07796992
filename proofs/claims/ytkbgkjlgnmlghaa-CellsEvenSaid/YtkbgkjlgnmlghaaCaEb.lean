import Derived.Test.YtkbgkjlgnmlghaaCaW
import Derived.Test.YtkbgkjlgnmlghaaCaEv
set_option linter.unusedSimpArgs false
set_option linter.unusedVariables false
namespace Go.Proofs.Ytkbgkjlgnmlghaa
open Go.Sim
set_option linter.unusedVariables false
set_option maxRecDepth 100000
def rowsOK (N : Nat) (g : Gd) : Prop:=∀ y : Int,0 ≤ y → y < N → (gt g y).length = N
def allV (N : Nat) (g : Gd) : Prop:=∀ y : Int,0 ≤ y → y < N → ValidL (gt g y)
def SqE (N : Nat) (g : Gd) (e : Int) : Prop:=((N < 2 ∨ 8 < N ∨ ¬ rowsOK N g) ∧ e = 2) ∨ ((2 ≤ N ∧ N ≤ 8 ∧ rowsOK N g) ∧ ¬ allV N g ∧ e = 8) ∨ ((2 ≤ N ∧ N ≤ 8 ∧ rowsOK N g) ∧ allV N g ∧ e = 0)
theorem SqE.zero {N : Nat} {g : Gd} {e : Int} (h : SqE N g e) (lg : g.length = N) (e0 : e = 0) : 2 ≤ N ∧ N ≤ 8 ∧ SqG N g:=by
 rcases h with ⟨a,b⟩ | ⟨_,_,c⟩ | ⟨⟨a1,a2,a3⟩,b,c⟩
 ·omega
 ·omega
 ·exact ⟨a1,a2,lg,a3,fun y x y0 y1 x0 x1 => b y y0 y1 x x0 (by rw [a3 y y0 y1];exact x1)⟩
variable {F : Prims} {call head arith cmp scmp bnot bsame conv neg imax imin ofNat slen place inR nz geZ rd wr push next mkOK nat zeros sadd eqAgg cut slc sslc strAt part app cpy putAt fresh lowered bump wrote addN lt ne fpAll brk yn rng mget mput mnew bytes clr : _} (hA : AP F ⟨call,head,arith,cmp,scmp,bnot,bsame,conv,neg,imax,imin,ofNat,slen,place,inR,nz,geZ,rd,wr,push,next,mkOK,nat,zeros,sadd,eqAgg,cut,slc,sslc,strAt,part,app,cpy,putAt,fresh,lowered,bump,wrote,addN,lt,ne,fpAll,brk,yn,rng,mget,mput,mnew,bytes,clr⟩)
include hA
theorem gg_loop {h0 : AHeap} (hlow : h0.low ≤ h0.next) {a : Option Addr} {N c : Nat} {hs : List Hd} {g : Gd} (hN : N ≤ 9223372036854775807) (t : GridRd h0 a N hs g) {Q : Exit → SS → Prop}
  (hbad : ∀ h' e kn K,Ext h0 h' → Q .ret ⟨(2,.bool true) :: e,kn,K,h'⟩)
  (hok : ∀ h',(∀ y : Int,0 ≤ y → y < N → (gt hs y).n ≤ 20) → Ext h0 h' → Q (.exit 0) ⟨[(0,.slice a N c)],0,[],h'⟩) :
  ∀ (m : Nat) (i : Int) (h : AHeap),(N - i).toNat ≤ m → 0 ≤ i → i ≤ N → (∀ y : Int,0 ≤ y → y < i → (gt hs y).n ≤ 20) → Ext h0 h →
   head 33 2 0 ⟨[(0,.slice a N c),(3,.int .i64 i)],0,[],h⟩ Q:=by
 intro m
 induction m with
 | zero =>
  intro i h hm i0 i1 hall he
  refine hA.roundR Try.func33 r33_ok (zc ?_)
  refine br (i < N) (by rw [e_lss hA,e_ofNat hA]) (fun c1 => by omega) (fun c1 => ?_) <;> refine zc ?_
  exact hok h (fun y y0 y1 => hall y y0 (by omega)) he
 | succ m ih =>
 intro i h hm i0 i1 hall he
 by_cases ci : i < N
 rotate_left
 ·refine hA.roundR Try.func33 r33_ok (zc ?_)
  refine br (i < N) (by rw [e_lss hA,e_ofNat hA]) (fun c1 => by omega) (fun c1 => ?_) <;> refine zc ?_
  exact hok h (fun y y0 y1 => hall y y0 (by omega)) he
 obtain ⟨b,o,rfl,_⟩:=grid_some t (by omega)
 have d1:=head_rd hA (t.ext he) i0 ci
 generalize hrn : (gt hs i).n = rn at *
 generalize (gt hs i).a = ra at *
 generalize (gt hs i).c = rc at *
 refine hA.roundR Try.func33 r33_ok (zc ?_)
 refine br (i < N) (by rw [e_lss hA,e_ofNat hA]) (fun c1 => ?_) (fun c1 => by omega) <;> refine zc ?_
 refine zq ?_
 refine br (20 < (rn : Int)) (by rw [e_gtr hA,e_ofNat hA]) (fun q => ?_) (fun q => ?_) <;> refine zc ?_
 ·exact hbad h _ _ _ he
 rw [add64 hA (by omega) (by omega)]
 refine ih (i + 1) h (by omega) (by omega) (by omega) (fun y y0 y1 => ?_) he
 by_cases e : y = i
 ·rw [e,hrn];omega
 ·exact hall y y0 (by omega)
theorem greatGrid_ok {h : AHeap} (hlow : h.low ≤ h.next) {a : Option Addr} {N c : Nat} {hs : List Hd} {g : Gd} (hN : N ≤ 9223372036854775807) (t : GridRd h a N hs g) {Q : Value → AHeap → Prop}
  (hQ : ∀ (r : Bool) h',(r = false → N ≤ 20 ∧ ∀ y : Int,0 ≤ y → y < N → (gt hs y).n ≤ 20) → Ext h h' → Q (.bool r) h') : call 33 [.slice a N c] h Q:=by
 refine hA.bodyR Try.func33 r33_ok (hA.alike _ _ _ rfl) hlow (zc ?_)
 refine gg_loop hA hlow hN t (fun h' e kn K x' => ?_) (fun h' hall x' => ?_) N 0 h (by omega) (by omega) (by omega) (fun y y0 y1 => by omega) (.refl h)
 ·refine zc ?_
  exact hQ true h' (fun q => by cases q) x'
 ·refine zc ?_
  rw [e_gtr hA,e_ofNat hA]
  exact hQ _ h' (fun q => ⟨by have:=of_decide_eq_false q;omega,hall⟩) x'
theorem sqg_one {h0 : AHeap} (hlow : h0.low ≤ h0.next) {b o N c : Nat} {hs : List Hd} {g : Gd} (hN : N ≤ 8) (t : GridRd h0 (some ⟨b,o,none⟩) N hs g) {Q : Exit → SS → Prop}
  (hbad : ∀ h' e kn K,¬ rowsOK N g → Ext h0 h' → Q .ret ⟨(2,.int .i64 2) :: e,kn,K,h'⟩)
  (hok : ∀ h',(∀ y : Int,0 ≤ y → y < N → (gt hs y).n = N) → Ext h0 h' → Q (.exit 0) ⟨[(0,.slice (some ⟨b,o,none⟩) N c)],0,[],h'⟩) :
  ∀ (m : Nat) (i : Int) (h : AHeap),(N - i).toNat ≤ m → 0 ≤ i → i ≤ N → (∀ y : Int,0 ≤ y → y < i → (gt hs y).n = N) → Ext h0 h →
   head 23 4 0 ⟨[(0,.slice (some ⟨b,o,none⟩) N c),(3,.int .i64 i)],0,[],h⟩ Q:=by
 intro m
 induction m with
 | zero =>
  intro i h hm i0 i1 hall he
  refine hA.roundR Try.func23 r23_ok (zc ?_)
  refine br (i < N) (by rw [e_lss hA,e_ofNat hA]) (fun c1 => by omega) (fun c1 => ?_) <;> refine zc ?_
  exact hok h (fun y y0 y1 => hall y y0 (by omega)) he
 | succ m ih =>
 intro i h hm i0 i1 hall he
 by_cases ci : i < N
 rotate_left
 ·refine hA.roundR Try.func23 r23_ok (zc ?_)
  refine br (i < N) (by rw [e_lss hA,e_ofNat hA]) (fun c1 => by omega) (fun c1 => ?_) <;> refine zc ?_
  exact hok h (fun y y0 y1 => hall y y0 (by omega)) he
 have d1:=head_rd hA (t.ext he) i0 ci
 have rL:=t.rowL i i0 ci
 generalize hrn : (gt hs i).n = rn at *
 generalize (gt hs i).a = ra at *
 generalize (gt hs i).c = rc at *
 refine hA.roundR Try.func23 r23_ok (zc ?_)
 refine br (i < N) (by rw [e_lss hA,e_ofNat hA]) (fun c1 => ?_) (fun c1 => by omega) <;> refine zc ?_
 refine zq ?_
 refine br ((rn : Int) ≠ N) (by rw [e_neq hA,e_ofNat hA,e_ofNat hA]) (fun q => ?_) (fun q => ?_) <;> refine zc ?_
 ·exact hbad h _ _ _ (fun w => q (by have:=w i i0 ci;omega)) he
 rw [add64 hA (by omega) (by omega)]
 refine ih (i + 1) h (by omega) (by omega) (by omega) (fun y y0 y1 => ?_) he
 by_cases e : y = i
 ·rw [e,hrn];omega
 ·exact hall y y0 (by omega)
theorem sqg_two {h0 : AHeap} (hlow : h0.low ≤ h0.next) {b o N c : Nat} {hs : List Hd} {g : Gd} (hN : N ≤ 8) (t : GridRd h0 (some ⟨b,o,none⟩) N hs g) (rows : ∀ y : Int,0 ≤ y → y < N → (gt hs y).n = N) {Q : Exit → SS → Prop}
  (hbad : ∀ h' e kn K,¬ allV N g → Ext h0 h' → Q .ret ⟨(2,.int .i64 8) :: e,kn,K,h'⟩)
  (hok : ∀ h',(∀ y : Int,0 ≤ y → y < N → ValidL (gt g y)) → Ext h0 h' → Q (.exit 2) ⟨[],0,[],h'⟩) :
  ∀ (m : Nat) (i : Int) (h : AHeap),(N - i).toNat ≤ m → 0 ≤ i → i ≤ N → (∀ y : Int,0 ≤ y → y < i → ValidL (gt g y)) → Ext h0 h →
   head 23 9 0 ⟨[(0,.slice (some ⟨b,o,none⟩) N c),(4,.int .i64 i)],0,[],h⟩ Q:=by
 intro m
 induction m with
 | zero =>
  intro i h hm i0 i1 hall he
  refine hA.roundR Try.func23 r23_ok (zc ?_)
  refine br (i < N) (by rw [e_lss hA,e_ofNat hA]) (fun c1 => by omega) (fun c1 => ?_) <;> refine zc ?_
  exact hok h (fun y y0 y1 => hall y y0 (by omega)) he
 | succ m ih =>
 intro i h hm i0 i1 hall he
 by_cases ci : i < N
 rotate_left
 ·refine hA.roundR Try.func23 r23_ok (zc ?_)
  refine br (i < N) (by rw [e_lss hA,e_ofNat hA]) (fun c1 => by omega) (fun c1 => ?_) <;> refine zc ?_
  exact hok h (fun y y0 y1 => hall y y0 (by omega)) he
 have d1:=head_rd hA (t.ext he) i0 ci
 have rr:=(t.ext he).rowS i i0 ci (by rw [rows i i0 ci];omega)
 rw [rows i i0 ci] at d1 rr
 generalize (gt hs i).a = ra at *
 generalize (gt hs i).c = rc at *
 refine hA.roundR Try.func23 r23_ok (zc ?_)
 refine br (i < N) (by rw [e_lss hA,e_ofNat hA]) (fun c1 => ?_) (fun c1 => by omega) <;> refine zc ?_
 refine zq ?_
 refine rvalid_ok hA (he.lowOK hlow) rr (by omega) (fun r h2 k2 x2 => ⟨_,rfl,?_⟩)
 have y2:=he.trans x2
 cases r with
 | false =>
  refine zc ?_
  rw [show bnot false = true by rw [e_bnot hA];rfl]
  refine zc ?_
  exact hbad h2 _ _ _ (fun w => by have:=k2.2 (w i i0 ci);cases this) y2
 | true =>
 refine zc ?_
 rw [show bnot true = false by rw [e_bnot hA];rfl]
 refine zc ?_
 rw [add64 hA (by omega) (by omega)]
 refine ih (i + 1) h2 (by omega) (by omega) (by omega) (fun y y0 y1 => ?_) y2
 by_cases e : y = i
 ·rw [e];exact k2.1 rfl
 ·exact hall y y0 (by omega)
theorem square_gen {h : AHeap} (hlow : h.low ≤ h.next) {a : Option Addr} {N c : Nat} {hs : List Hd} {g : Gd} (t : GridRd h a N hs g) {Q : Value → AHeap → Prop}
  (hQ : ∀ (e : Int) h',SqE N g e → Ext h h' → Q (.int .i64 e) h') : call 23 [.slice a N c] h Q:=by
 refine hA.bodyR Try.func23 r23_ok (hA.alike _ _ _ rfl) hlow (zc ?_)
 refine br ((N : Int) < 2) (by rw [e_lss hA,e_ofNat hA]) (fun q => ?_) (fun n2 => ?_) <;> refine zc ?_
 ·exact hQ 2 h (.inl ⟨.inl (by omega),rfl⟩) (.refl h)
 refine br (8 < (N : Int)) (by rw [e_gtr hA,e_ofNat hA]) (fun q => ?_) (fun n8 => ?_) <;> refine zc ?_
 ·exact hQ 2 h (.inl ⟨.inr (.inl (by omega)),rfl⟩) (.refl h)
 obtain ⟨b,o,rfl,_⟩:=grid_some t (by omega)
 refine sqg_one hA hlow (by omega) t (fun h' e kn K w x' => ?_) (fun h1 rows x1 => ?_) N 0 h (by omega) (by omega) (by omega) (fun y y0 y1 => by omega) (.refl h)
 ·refine zc ?_
  exact hQ 2 h' (.inl ⟨.inr (.inr w),rfl⟩) x'
 have rows2 : rowsOK N g:=fun y y0 y1 => by rw [t.rowL y y0 y1];exact rows y y0 y1
 refine zc ?_
 refine sqg_two hA (x1.lowOK hlow) (by omega) (t.ext x1) rows (fun h' e kn K w x' => ?_) (fun h2 val x2 => ?_) N 0 h1 (by omega) (by omega) (by omega) (fun y y0 y1 => by omega) (.refl h1)
 ·refine zc ?_
  exact hQ 8 h' (.inr (.inl ⟨⟨by omega,by omega,rows2⟩,w,rfl⟩)) (x1.trans x')
 refine zc ?_
 exact hQ 0 h2 (.inr (.inr ⟨⟨by omega,by omega,rows2⟩,val,rfl⟩)) (x1.trans x2)
theorem squareAny_ok {h : AHeap} (hlow : h.low ≤ h.next) {a : Option Addr} {N c : Nat} {hs : List Hd} {g : Gd} (t : GridRd h a N hs g) {Q : Value → AHeap → Prop}
  (hQ : ∀ (e : Int) h',(e = 0 → 2 ≤ N ∧ N ≤ 8 ∧ SqG N g) → Ext h h' → Q (.int .i64 e) h') : call 23 [.slice a N c] h Q:=
 square_gen hA hlow t (fun e h' k x => hQ e h' (k.zero t.len) x)
end Go.Proofs.Ytkbgkjlgnmlghaa
namespace Go.Proofs.Ytkbgkjlgnmlghaa
open Go.Sim
set_option linter.unusedVariables false
set_option maxRecDepth 100000
theorem SqG.put {n : Nat} {g : Gd} (h : SqG n g) {y x : Int} (hy : 0 ≤ y ∧ y < n) (hx : 0 ≤ x ∧ x < n) {k : Ck} (hk : k.ok) : SqG n (g.set y.toNat ((gt g y).set x.toNat k)) ∧ ∀ y' x' : Int,0 ≤ y' → y' < n → 0 ≤ x' → x' < n → gt (gt (g.set y.toNat ((gt g y).set x.toNat k)) y') x' = if y' = y ∧ x' = x then k else gt (gt g y') x':=by
 have hl:=h.len
 have cell : ∀ y' x' : Int,0 ≤ y' → y' < n → 0 ≤ x' → x' < n → gt (gt (g.set y.toNat ((gt g y).set x.toNat k)) y') x' = if y' = y ∧ x' = x then k else gt (gt g y') x':=fun y' x' y0 y1 x0 x1 => by
  rw [gt_set g hy.1 y0 (by omega)]
  by_cases e1 : y' = y
  ·rw [if_pos e1,gt_set _ hx.1 x0 (by rw [h.row _ hy.1 hy.2];exact hx.2)]
   by_cases e2 : x' = x
   ·rw [if_pos e2,if_pos ⟨e1,e2⟩]
   ·rw [if_neg e2,if_neg (fun q => e2 q.2),e1]
  ·rw [if_neg e1,if_neg (fun q => e1 q.1)]
 refine ⟨⟨by rw [List.length_set];exact hl,fun y' y0 y1 => ?_,fun y' x' y0 y1 x0 x1 => ?_⟩,cell⟩
 ·rw [gt_set g hy.1 y0 (by omega)]
  split
  ·rw [List.length_set];exact h.row _ hy.1 hy.2
  ·exact h.row y' y0 y1
 ·rw [cell y' x' y0 y1 x0 x1]
  split
  ·exact hk
  ·exact h.ok y' x' y0 y1 x0 x1
def Filled (n : Nat) (c : Ck) (g : Gd) (y x : Int) : Prop:=∀ y' x' : Int,0 ≤ y' → y' < n → 0 ≤ x' → x' < n → (y' < y ∨ (y' = y ∧ x' < x)) → gt (gt g y') x' = c
theorem Rows.part {α : Type} [Inhabited α] {enc : α → List Value} {es : Nat} {h : AHeap} {a : Option Addr} {n : Nat} {l : List α} (p : Rows enc es h a n l) {i : Int} (i0 : 0 ≤ i) (i1 : i < n) : Rows enc es h (a.map (aadd · (i.toNat * es))) 1 [gt l i]:=by
 obtain ⟨b,o,rfl,lb,w⟩:=p.at i0 i1
 have w:=w 0 es (by omega) p.pos
 rw [Nat.add_zero,List.drop_zero,List.take_of_length_le (by rw [p.each];omega)] at w
 refine ⟨⟨rfl,lb,?_⟩,p.each,p.pos⟩
 simp only [List.flatMap_cons,List.flatMap_nil,List.append_nil,Nat.one_mul]
 exact w
variable {F : Prims} {call head arith cmp scmp bnot bsame conv neg imax imin ofNat slen place inR nz geZ rd wr push next mkOK nat zeros sadd eqAgg cut slc sslc strAt part app cpy putAt fresh lowered bump wrote addN lt ne fpAll brk yn rng mget mput mnew bytes clr : _} (hA : AP F ⟨call,head,arith,cmp,scmp,bnot,bsame,conv,neg,imax,imin,ofNat,slen,place,inR,nz,geZ,rd,wr,push,next,mkOK,nat,zeros,sadd,eqAgg,cut,slc,sslc,strAt,part,app,cpy,putAt,fresh,lowered,bump,wrote,addN,lt,ne,fpAll,brk,yn,rng,mget,mput,mnew,bytes,clr⟩)
include hA
theorem slc_part {t : TypeId} {e es : Nat} (hT : SliceT Try.prog t e es) {a : Option Addr} {n c : Nat} (hc : c < slack) (hn : n ≤ c) {k k' : IntKind} {i j : Int} (i0 : 0 ≤ i) (i1 : i < j) (j1 : j ≤ n) {C : Option Addr → Nat → Nat → Prop}
  (h : C (a.map (aadd · (i.toNat * es))) (j.toNat - i.toNat) (c - i.toNat)) : slc t (.slice a n c) (some (.int k i)) (some (.int k' j)) none C:=by
 have e_slc : slc t (.slice a n c) (some (.int k i)) (some (.int k' j)) none C = ∃ a' n' c',sliceA Try.prog t (.slice a n c) (some (.int k i)) (some (.int k' j)) none = some (.slice a' n' c') ∧ C a' n' c':=by have:=hA.eq;injections;subst_vars;rfl
 rw [e_slc]
 refine ⟨_,_,_,?_,h⟩
 unfold sliceA
 simp only [hT.und,hT.size]
 unfold sliceS
 simp only [boundMx,boundHi,boundLo,bound]
 rw [capLow_lt hc,if_pos ⟨by omega,by omega⟩]
 simp only []
 rw [if_pos ⟨by omega,by omega⟩]
 simp only []
 rw [ble_true (by omega),blt_true hc,nbeq (show c ≠ i.toNat by omega)]
 rfl
theorem even_inner {h0 w : AHeap} (hlow : h0.low ≤ h0.next) {n : Int} {nn : Nat} (hn : n = nn) (n8 : nn ≤ 8) {sa : Option Addr} {N sc : Nat} {oa cap1 : Nat} {bs : List Nat} {c : Ck} (okc : c.ok) {y : Int} (y0 : 0 ≤ y) (y1 : y < nn) {Q : Exit → SS → Prop}
  (hok : ∀ h' g,SqG nn g → Filled nn c g y nn → Grid2 Ck.cells 3 w h' oa bs g → Ext h0 h' → Q (.exit 2) ⟨[(0,.int .i64 n),(1,.slice sa N sc),(5,.pointer (some ⟨0,0,some 0⟩)),(7,.bool true),(8,.slice (some ⟨oa,0,none⟩) nn cap1),(9,.int .i64 y)],1,[(0,[.int .i64 c.a,.int .i64 c.b,.int .i64 c.d])],h'⟩) (how : h0.next ≤ w.next) :
  ∀ (m : Nat) (x : Int) (h : AHeap) (g : Gd),(n - x).toNat ≤ m → 0 ≤ x → x ≤ n → SqG nn g → Filled nn c g y x → Grid2 Ck.cells 3 w h oa bs g → Ext h0 h →
   head 6 9 1 ⟨[(0,.int .i64 n),(1,.slice sa N sc),(5,.pointer (some ⟨0,0,some 0⟩)),(7,.bool true),(8,.slice (some ⟨oa,0,none⟩) nn cap1),(9,.int .i64 y),(10,.int .i64 x)],1,[(0,[.int .i64 c.a,.int .i64 c.b,.int .i64 c.d])],h⟩ Q:=by
 obtain ⟨ca,cb,cd⟩:=c
 intro m
 induction m with
 | zero =>
  intro x h g hm x0 x1 sq fl t he
  refine hA.roundR Try.func6 r6_ok (zc ?_)
  refine br (x < n) (by rw [e_lss hA]) (fun q => by omega) (fun _ => ?_) <;> refine zc ?_
  exact hok h g sq (by rw [← hn,show n = x by omega];exact fl) t he
 | succ m ih =>
 intro x h g hm x0 x1 sq fl t he
 by_cases cx : x < n
 rotate_left
 ·refine hA.roundR Try.func6 r6_ok (zc ?_)
  refine br (x < n) (by rw [e_lss hA]) (fun q => by omega) (fun _ => ?_) <;> refine zc ?_
  exact hok h g sq (by rw [← hn,show n = x by omega];exact fl) t he
 obtain ⟨h9,hh9⟩ : ∃ z,z = bump h 8:=⟨_,rfl⟩
 have x9 : Ext h h9:=by rw [hh9];exact ext_bump hA _ _
 have t9:=t.more x9
 have gl:=sq.len
 have ry:=sq.row y y0 y1
 obtain ⟨rb,hrb⟩ : ∃ z,z = bs.getD y.toNat 0:=⟨_,rfl⟩
 have rh : rd h9 oa (place 0 y 1) 1 [.slice (some ⟨rb,0,none⟩) nn (someCap 3 nn)]:=by
  have:=t9.head y0 (by omega)
  unfold hdr at this
  rw [ry,← hrb] at this
  rw [e_rd hA,e_place hA];exact this
 generalize hcap : someCap 3 nn = cap at *
 obtain ⟨h',w1,t2,wr2⟩:=t9.set y0 (by omega) x0 (by omega) ⟨ca,cb,cd⟩
 rw [← hrb] at w1 wr2
 have ww : wr h9 rb (place 0 x 3) [.int .i64 ca,.int .i64 cb,.int .i64 cd] h':=wr_ok hA w1
 have hold:=t9.oldr rb (by rw [hrb];exact bs_mem (by have:=t9.len;omega))
 have eX : Ext h0 h':=wr2.ext (he.trans x9) (by omega)
 obtain ⟨q1,q2⟩:=sq.put ⟨y0,y1⟩ ⟨x0,by omega⟩ okc
 refine hA.roundR Try.func6 r6_ok (zc ?_)
 refine br (x < n) (by rw [e_lss hA]) (fun _ => ?_) (fun q => by omega) <;> refine zc ?_
 rw [← hh9]
 refine zq ?_
 rw [add64 hA (by omega) (by omega)]
 refine ih (x + 1) h' _ (by omega) (by omega) (by omega) q1 (fun y' x' a0 a1 b0 b1 hlt => ?_) t2 eX
 rw [q2 y' x' a0 a1 b0 b1]
 split
 ·rfl
 ·exact fl y' x' a0 a1 b0 b1 (by omega)
theorem even_outer {h0 w : AHeap} (hlow : h0.low ≤ h0.next) {n : Int} {nn : Nat} (hn : n = nn) (n8 : nn ≤ 8) {sa : Option Addr} {N sc : Nat} {oa cap1 : Nat} {bs : List Nat} {c : Ck} (okc : c.ok) {Q : Exit → SS → Prop}
  (hok : ∀ h' g,SqG nn g → Filled nn c g nn 0 → Grid2 Ck.cells 3 w h' oa bs g → Ext h0 h' → Q (.exit 0) ⟨[(0,.int .i64 n),(1,.slice sa N sc),(5,.pointer (some ⟨0,0,some 0⟩)),(7,.bool true),(8,.slice (some ⟨oa,0,none⟩) nn cap1)],1,[(0,[.int .i64 c.a,.int .i64 c.b,.int .i64 c.d])],h'⟩) (how : h0.next ≤ w.next) :
  ∀ (m : Nat) (y : Int) (h : AHeap) (g : Gd),(n - y).toNat ≤ m → 0 ≤ y → y ≤ n → SqG nn g → Filled nn c g y 0 → Grid2 Ck.cells 3 w h oa bs g → Ext h0 h →
   head 6 6 1 ⟨[(0,.int .i64 n),(1,.slice sa N sc),(5,.pointer (some ⟨0,0,some 0⟩)),(7,.bool true),(8,.slice (some ⟨oa,0,none⟩) nn cap1),(9,.int .i64 y)],1,[(0,[.int .i64 c.a,.int .i64 c.b,.int .i64 c.d])],h⟩ Q:=by
 obtain ⟨ca,cb,cd⟩:=c
 intro m
 induction m with
 | zero =>
  intro y h g hm y0 y1 sq fl t he
  refine hA.roundR Try.func6 r6_ok (zc ?_)
  refine br (y < n) (by rw [e_lss hA]) (fun q => by omega) (fun _ => ?_) <;> refine zc ?_
  exact hok h g sq (by rw [← hn,show n = y by omega];exact fl) t he
 | succ m ih =>
 intro y h g hm y0 y1 sq fl t he
 by_cases cy : y < n
 rotate_left
 ·refine hA.roundR Try.func6 r6_ok (zc ?_)
  refine br (y < n) (by rw [e_lss hA]) (fun q => by omega) (fun _ => ?_) <;> refine zc ?_
  exact hok h g sq (by rw [← hn,show n = y by omega];exact fl) t he
 refine hA.roundR Try.func6 r6_ok (zc ?_)
 refine br (y < n) (by rw [e_lss hA]) (fun _ => ?_) (fun q => by omega) <;> refine zc ?_
 refine even_inner hA hlow hn n8 (c:=⟨ca,cb,cd⟩) okc y0 (by omega) (fun h' g' sq' fl' t' he' => ?_) how nn 0 h g (by omega) (by omega) (by omega) sq fl t he
 refine zc ?_
 rw [add64 hA (by omega) (by omega)]
 exact ih (y + 1) h' g' (by omega) (by omega) (by omega) sq' (fun y' x' a0 a1 b0 b1 hlt => fl' y' x' a0 a1 b0 b1 (by omega)) t' he'
end Go.Proofs.Ytkbgkjlgnmlghaa
