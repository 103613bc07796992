import Derived.Test.YtkbgkjlgnmlghaaFracX
import Derived.Test.YtkbgkjlgnmlghaaCmpA
set_option linter.unusedSimpArgs false
set_option linter.unusedVariables false
namespace Go.Proofs.Ytkbgkjlgnmlghaa
open Go.Sim
set_option linter.unusedVariables false
theorem gt_map {α β : Type} [Inhabited α] [Inhabited β] (f : α → β) (l : List α) {i : Int} (h0 : 0 ≤ i) (h1 : i < l.length) : gt (l.map f) i = f (gt l i):=by
 unfold gt
 rw [List.getD,List.getD,List.getElem?_map,List.getElem?_eq_getElem (by omega)]
 rfl
theorem gt_ext {α : Type} [Inhabited α] {l m : List α} (hl : l.length = m.length) (h : ∀ i : Int,0 ≤ i → i < l.length → gt l i = gt m i) : l = m:=by
 refine List.ext_getElem hl (fun i h1 h2 => ?_)
 have:=h i (by omega) (by omega)
 unfold gt at this
 rw [Int.toNat_natCast,List.getD_eq_getElem?_getD,List.getD_eq_getElem?_getD,List.getElem?_eq_getElem h1,List.getElem?_eq_getElem h2] at this
 exact this
theorem gt_set {α : Type} [Inhabited α] (l : List α) {i j : Int} (hi : 0 ≤ i) (hj : 0 ≤ j) (hl : i < l.length) (x : α) : gt (l.set i.toNat x) j = if j = i then x else gt l j:=by
 unfold gt
 rw [List.getD_eq_getElem?_getD,List.getD_eq_getElem?_getD,List.getElem?_set]
 by_cases e : j = i
 ·subst e;rw [if_pos rfl,if_pos (by omega),if_pos rfl];rfl
 ·rw [if_neg (by omega),if_neg e]
theorem gt_take {α : Type} [Inhabited α] (l : List α) {i : Int} (h0 : 0 ≤ i) (h1 : i < l.length) : l.take (i + 1).toNat = l.take i.toNat ++ [gt l i]:=by
 have e : (i + 1).toNat = i.toNat + 1:=by omega
 have h2 : i.toNat < l.length:=by omega
 unfold gt
 rw [e,List.take_add_one,List.getD_eq_getElem?_getD,List.getElem?_eq_getElem h2]
 rfl
theorem gt_mem {α : Type} [Inhabited α] (l : List α) {i : Int} (h0 : 0 ≤ i) (h1 : i < l.length) : gt l i ∈ l:=by
 have h2 : i.toNat < l.length:=by omega
 unfold gt
 rw [List.getD_eq_getElem?_getD,List.getElem?_eq_getElem h2]
 exact List.getElem_mem ..
structure Pre {α : Type} (le : α → α → Prop) : Prop where
 refl : ∀ x,le x x
 trans : ∀ x y z,le x y → le y z → le x z
 total : ∀ x y,le x y ∨ le y x
theorem Pre.of_not {α : Type} {le : α → α → Prop} (h : Pre le) {x y : α} (w : ¬ le x y) : le y x:=(h.total x y).resolve_left w
section
variable {α : Type} [Inhabited α]
def swapL (L : List α) (i j : Int) : List α:=(L.set i.toNat (gt L j)).set j.toNat (gt L i)
theorem swap_len (L : List α) (i j : Int) : (swapL L i j).length = L.length:=by unfold swapL;rw [List.length_set,List.length_set]
theorem gt_swap (L : List α) {i j k : Int} (i0 : 0 ≤ i) (i1 : i < L.length) (j0 : 0 ≤ j) (j1 : j < L.length) (k0 : 0 ≤ k) : gt (swapL L i j) k = if k = j then gt L i else if k = i then gt L j else gt L k:=by
 unfold swapL
 rw [gt_set _ j0 k0 (by rw [List.length_set];exact j1),gt_set _ i0 k0 i1]
theorem count_set (L : List α) (p : α → Bool) {i : Int} (i0 : 0 ≤ i) (i1 : i < L.length) (x : α) : (L.set i.toNat x).countP p + (if p (gt L i) = true then 1 else 0) = L.countP p + if p x = true then 1 else 0:=by
 have h2 : i.toNat < L.length:=by omega
 have e : gt L i = L[i.toNat]:=by
  unfold gt
  rw [List.getD_eq_getElem?_getD,List.getElem?_eq_getElem h2]
  rfl
 rw [e,List.countP_set h2]
 by_cases c : p L[i.toNat] = true
 ·have : 0 < L.countP p:=List.countP_pos_iff.2 ⟨_,List.getElem_mem h2,c⟩
  by_cases d : p x = true <;> simp [c,d] <;> omega
 ·by_cases d : p x = true <;> simp [c,d]
theorem count_swap (L : List α) (p : α → Bool) {i j : Int} (i0 : 0 ≤ i) (i1 : i < L.length) (j0 : 0 ≤ j) (j1 : j < L.length) : (swapL L i j).countP p = L.countP p:=by
 unfold swapL
 have h1:=count_set L p i0 i1 (gt L j)
 have h2:=count_set (L.set i.toNat (gt L j)) p (i:=j) j0 (by rw [List.length_set];exact j1) (gt L i)
 rw [gt_set L i0 j0 i1] at h2
 by_cases e : j = i
 ·subst e
  rw [if_pos rfl] at h2
  omega
 ·rw [if_neg e] at h2
  omega
structure PermOn (a b : Int) (L L' : List α) : Prop where
 len : L'.length = L.length
 out : ∀ j : Int,0 ≤ j → (j < a ∨ b ≤ j) → gt L' j = gt L j
 all : ∀ P : α → Prop,(∀ j : Int,a ≤ j → j < b → P (gt L j)) → ∀ j : Int,a ≤ j → j < b → P (gt L' j)
 cnt : ∀ p : α → Bool,L'.countP p = L.countP p
theorem PermOn.refl (a b : Int) (L : List α) : PermOn a b L L:=⟨rfl,fun _ _ _ => rfl,fun _ h => h,fun _ => rfl⟩
theorem PermOn.trans {a b : Int} {L M N : List α} (h : PermOn a b L M) (k : PermOn a b M N) : PermOn a b L N:=
 ⟨k.len.trans h.len,fun j j0 q => (k.out j j0 q).trans (h.out j j0 q),fun P w => k.all P (h.all P w),fun p => (k.cnt p).trans (h.cnt p)⟩
theorem PermOn.swap {a b : Int} (L : List α) {i j : Int} (a0 : 0 ≤ a) (hb : b ≤ L.length) (i0 : a ≤ i) (i1 : i < b) (j0 : a ≤ j) (j1 : j < b) : PermOn a b L (swapL L i j):=by
 refine ⟨swap_len L i j,fun k k0 q => ?_,fun P w k k0 k1 => ?_,fun p => count_swap L p (by omega) (by omega) (by omega) (by omega)⟩
 ·rw [gt_swap L (by omega) (by omega) (by omega) (by omega) k0,if_neg (by omega),if_neg (by omega)]
 ·rw [gt_swap L (by omega) (by omega) (by omega) (by omega) (by omega)]
  split
  ·exact w i i0 i1
  ·split
   ·exact w j j0 j1
   ·exact w k k0 k1
variable {le : α → α → Prop}
def SortedOn (le : α → α → Prop) (L : List α) (a b : Int) : Prop:=∀ p q : Int,a ≤ p → p < q → q < b → le (gt L p) (gt L q)
def InsOn (le : α → α → Prop) (L : List α) (a b j : Int) : Prop:=∀ p q : Int,a ≤ p → p < q → q ≤ b → q ≠ j → le (gt L p) (gt L q)
theorem InsOn.start {L : List α} {a i : Int} (h : SortedOn le L a i) : InsOn le L a i i:=fun p q p0 pq q1 qj => h p q p0 pq (by omega)
theorem InsOn.first {L : List α} {a i : Int} (h : InsOn le L a i a) : SortedOn le L a (i + 1):=fun p q p0 pq q1 => h p q p0 pq (by omega) (by omega)
theorem InsOn.stop (hp : Pre le) {L : List α} {a i j : Int} (h : InsOn le L a i j) (ja : a < j) (w : le (gt L (j - 1)) (gt L j)) : SortedOn le L a (i + 1):=by
 intro p q p0 pq q1
 by_cases e : q = j
 ·subst e
  by_cases e2 : p = q - 1
  ·rw [e2];exact w
  ·exact hp.trans _ _ _ (h p (q - 1) p0 (by omega) (by omega) (by omega)) w
 ·exact h p q p0 pq (by omega) e
theorem InsOn.step (hp : Pre le) {L : List α} {a i j : Int} (a0 : 0 ≤ a) (hl : i < L.length) (h : InsOn le L a i j) (ja : a < j) (ji : j ≤ i) (w : ¬ le (gt L (j - 1)) (gt L j)) : InsOn le (swapL L j (j - 1)) a i (j - 1):=by
 have w':=hp.of_not w
 have g : ∀ k : Int,0 ≤ k → gt (swapL L j (j - 1)) k = if k = j - 1 then gt L j else if k = j then gt L (j - 1) else gt L k:=fun k k0 => gt_swap L (by omega) (by omega) (by omega) (by omega) k0
 intro p q p0 pq q1 qj
 rw [g p (by omega),g q (by omega),if_neg (show ¬ q = j - 1 from qj)]
 by_cases e : q = j
 ·rw [if_pos e]
  by_cases e2 : p = j - 1
  ·rw [if_pos e2];exact w'
  ·rw [if_neg e2,if_neg (show ¬ p = j by omega)]
   exact h p (j - 1) p0 (by omega) (by omega) (by omega)
 ·rw [if_neg e]
  by_cases e2 : p = j - 1
  ·rw [if_pos e2]
   exact h j q (by omega) (by omega) q1 e
  ·rw [if_neg e2]
   by_cases e3 : p = j
   ·rw [if_pos e3]
    exact h (j - 1) q (by omega) (by omega) q1 e
   ·rw [if_neg e3]
    exact h p q p0 pq q1 e
end
end Go.Proofs.Ytkbgkjlgnmlghaa
namespace Go.Proofs.Ytkbgkjlgnmlghaa
open Go.Sim
set_option linter.unusedVariables false
section
variable {α : Type} [Inhabited α] {le : α → α → Prop}
theorem SortedOn.one {L : List α} {a b : Int} (h : b ≤ a + 1) : SortedOn le L a b:=fun p q p0 pq q1 => by omega
end
end Go.Proofs.Ytkbgkjlgnmlghaa
namespace Go.Proofs.Ytkbgkjlgnmlghaa
open Go.Sim
set_option linter.unusedVariables false
set_option maxRecDepth 100000
def hdr (es n b : Nat) : Value:=.slice (some ⟨b,0,none⟩) n (someCap es n)
def hdrs {α : Type} (es : Nat) (bs : List Nat) (g : List (List α)) : List Value:=List.zipWith (fun b r => hdr es r.length b) bs g
theorem hdrs_len {α : Type} {es : Nat} {bs : List Nat} {g : List (List α)} (h : bs.length = g.length) : (hdrs es bs g).length = g.length:=by
 unfold hdrs;rw [List.length_zipWith,h];exact Nat.min_self _
theorem hdrs_at {α : Type} {es : Nat} {bs : List Nat} {g : List (List α)} (h : bs.length = g.length) {y : Int} (y0 : 0 ≤ y) (y1 : y < g.length) : (hdrs es bs g)[y.toNat]? = some (hdr es (gt g y).length (bs.getD y.toNat 0)):=by
 unfold hdrs gt
 rw [List.getElem?_zipWith,List.getElem?_eq_getElem (by omega),List.getElem?_eq_getElem (by omega),List.getD_eq_getElem?_getD,List.getD_eq_getElem?_getD,List.getElem?_eq_getElem (by omega),List.getElem?_eq_getElem (by omega)]
 rfl
structure Grid2 {α : Type} (enc : α → List Value) (es : Nat) (h0 h : AHeap) (oa : Nat) (bs : List Nat) (g : List (List α)) : Prop where
 ext : Ext h0 h
 own : Own h oa 1 (hdrs es bs g)
 len : bs.length = g.length
 row : ∀ y : Int,0 ≤ y → y < g.length → Own h (bs.getD y.toNat 0) es ((gt g y).flatMap enc)
 old : h0.next ≤ oa
 oldr : ∀ b,b ∈ bs → h0.next ≤ b
 lt : oa < h.next
 ltr : ∀ b,b ∈ bs → b < h.next
 out : oa ∉ bs
 dis : bs.Nodup
 each : ∀ x,(enc x).length = es
section
variable {α : Type} {enc : α → List Value} {es : Nat} {h0 h : AHeap} {oa : Nat} {bs : List Nat} {g : List (List α)}
theorem bs_mem {bs : List Nat} {i : Nat} (h : i < bs.length) : bs.getD i 0 ∈ bs:=by
 rw [List.getD_eq_getElem?_getD,List.getElem?_eq_getElem h];exact List.getElem_mem h
theorem Grid2.more {h' : AHeap} (t : Grid2 enc es h0 h oa bs g) (e : Ext h h') : Grid2 enc es h0 h' oa bs g:=
 ⟨t.ext.trans e,t.own.ext e t.lt,t.len,fun y y0 y1 => (t.row y y0 y1).ext e (t.ltr _ (bs_mem (by have:=t.len;omega))),t.old,t.oldr,Nat.lt_of_lt_of_le t.lt e.next,fun b hb => Nat.lt_of_lt_of_le (t.ltr b hb) e.next,t.out,t.dis,t.each⟩
theorem Grid2.head (t : Grid2 enc es h0 h oa bs g) {y : Int} (y0 : 0 ≤ y) (y1 : y < g.length) : h.readG ⟨oa,0 + y.toNat * 1,none⟩ 1 = some [hdr es (gt g y).length (bs.getD y.toNat 0)]:=by
 have e:=hdrs_at (es:=es) t.len y0 y1
 have l:=hdrs_len (es:=es) t.len
 rw [Nat.zero_add,Nat.mul_one,t.own.readG (o:=y.toNat) (n:=1) (by omega)]
 rw [List.drop_eq_getElem_cons (by omega)]
 simp only [List.take_succ_cons,List.take_zero]
 rw [List.getElem?_eq_getElem (by omega)] at e
 rw [Option.some.inj e]
theorem Grid2.el [Inhabited α] (hp : 0 < es) (t : Grid2 enc es h0 h oa bs g) {y x : Int} (y0 : 0 ≤ y) (y1 : y < g.length) (x0 : 0 ≤ x) (x1 : x < (gt g y).length) : h.readG ⟨bs.getD y.toNat 0,0 + x.toNat * es,none⟩ es = some (enc (gt (gt g y) x)):=by
 have r:=Own.rows (t.row y y0 y1) t.each hp (t.ltr _ (bs_mem (by have:=t.len;omega)))
 obtain ⟨b,o,e,_,w⟩:=r.at x0 x1
 cases e
 have:=w 0 es (by omega) hp
 rw [Nat.add_zero] at this
 rw [this,List.drop_zero,List.take_of_length_le (by rw [t.each];omega)]
theorem nodup_getD {bs : List Nat} (h : bs.Nodup) {i j : Nat} (hi : i < bs.length) (hj : j < bs.length) (e : bs.getD i 0 = bs.getD j 0) : i = j:=by
 rw [List.getD_eq_getElem?_getD,List.getD_eq_getElem?_getD,List.getElem?_eq_getElem hi,List.getElem?_eq_getElem hj] at e
 exact (List.getElem_inj h).1 (by simpa using e)
theorem Grid2.set [Inhabited α] (t : Grid2 enc es h0 h oa bs g) {y x : Int} (y0 : 0 ≤ y) (y1 : y < g.length) (x0 : 0 ≤ x) (x1 : x < (gt g y).length) (v : α) :
  ∃ h',h.write (bs.getD y.toNat 0) (0 + x.toNat * es) (enc v) = some h' ∧ Grid2 enc es h0 h' oa bs (g.set y.toNat ((gt g y).set x.toNat v)) ∧ Wrote h h' (bs.getD y.toNat 0):=by
 have hb : bs.getD y.toNat 0 ∈ bs:=bs_mem (by have:=t.len;omega)
 obtain ⟨h',w1,w2,w3⟩:=Own.setRow (t.row y y0 y1) t.each (i:=x.toNat) (by omega) v
 refine ⟨h',by rw [Nat.zero_add];exact w1,⟨w3.ext t.ext (t.oldr _ hb),?_,by rw [List.length_set];exact t.len,fun y' y0' y1' => ?_,t.old,t.oldr,by rw [w3.next];exact t.lt,fun b q => by rw [w3.next];exact t.ltr b q,t.out,t.dis,t.each⟩,w3⟩
 ·have e : hdrs es bs (g.set y.toNat ((gt g y).set x.toNat v)) = hdrs es bs g:=by
   unfold hdrs
   apply List.ext_getElem?
   intro i
   rw [List.getElem?_zipWith,List.getElem?_zipWith,List.getElem?_set]
   by_cases c : y.toNat = i
   ·subst c
    have : y.toNat < g.length:=by omega
    rw [if_pos rfl,if_pos this,List.getElem?_eq_getElem this]
    cases bs[y.toNat]? with
    | none => rfl
    | some b =>
     simp only [List.length_set]
     unfold gt
     rw [List.getD_eq_getElem?_getD,List.getElem?_eq_getElem this]
     rfl
   ·rw [if_neg c]
  rw [e]
  exact t.own.of_get (w3.get _ (fun q => t.out (by rw [q];exact hb)))
 ·rw [List.length_set] at y1'
  rw [gt_set g y0 y0' y1]
  split
  ·rename_i e;subst e;exact w2
  ·rename_i ne
   refine (t.row y' y0' y1').of_get (w3.get _ (fun q => ne ?_))
   have:=nodup_getD t.dis (by have:=t.len;omega) (by have:=t.len;omega) q
   omega
end
variable {F : Prims} {call head arith cmp scmp bnot bsame conv neg imax imin ofNat slen place inR nz geZ rd wr push next mkOK nat zeros sadd eqAgg cut slc sslc strAt part app cpy putAt fresh lowered bump wrote addN lt ne fpAll brk yn rng mget mput mnew bytes clr : _} (hA : AP F ⟨call,head,arith,cmp,scmp,bnot,bsame,conv,neg,imax,imin,ofNat,slen,place,inR,nz,geZ,rd,wr,push,next,mkOK,nat,zeros,sadd,eqAgg,cut,slc,sslc,strAt,part,app,cpy,putAt,fresh,lowered,bump,wrote,addN,lt,ne,fpAll,brk,yn,rng,mget,mput,mnew,bytes,clr⟩)
include hA
theorem appK_ok {t e es : Nat} (hT : SliceT Try.prog t e es) {α : Type} {enc : α → List Value} (he : ∀ x,(enc x).length = es) (hp0 : 0 < es) (hok : ∀ x,(enc x).all cellOK = true) {h : AHeap} {a : Option Addr} {n c : Nat} {l : List α} {v : α} (hp : Apd h es a n c (l.flatMap enc)) (hn : n ≤ 100000) {C : Option Addr → Nat → Nat → AHeap → Prop}
  (hC : ∀ b' h',Apd h' es (some ⟨b',0,none⟩) (n + 1) (someCap es (n + 1)) ((l ++ [v]).flatMap enc) → (∀ h0,Ext h0 h → From h0.next a → Ext h0 h') → h.next < h'.next → h.next < b' → (∀ i,i < h.next → (∀ ad,a = some ad → ad.block ≠ i) → h'.m.get i = h.m.get i) → C (some ⟨b',0,none⟩) (n + 1) (someCap es (n + 1)) h') :
  app [t,t] [.slice a n c,.slice (some ⟨next h,0,none⟩) 1 1] (push h es (enc v)) C:=by
 rw [e_app hA,e_push hA,e_next hA]
 have hs : Cells (h.push es (enc v)) (some ⟨h.next,0,none⟩) 1 es (enc v):=⟨rfl,by simp [AHeap.push],by rw [(Own.push h es _).readG (by rw [he];omega),List.drop_zero,List.take_of_length_le (by rw [he];omega)]⟩
 obtain ⟨a',c',h',h1,h2,h3,h4,h5,h6⟩:=append_keep hT hT.und (c2:=1) (hp.ext (.push h es (enc v))) hs (all_flat hok l) (hok v) (by omega) (by omega)
 rcases h2 with ⟨_,w,_⟩ | ⟨b',rfl,rfl,w1,w2,w3⟩
 ·omega
 have nx : (h.push es (enc v)).next = h.next + 1:=rfl
 refine ⟨_,n + 1,_,h',h1,hC b' h' (.inr ⟨b',rfl,rfl,w1,by rw [flatE_len he];simp only [List.length_append,List.length_cons,List.length_nil];have:=hp.cells.length;rw [flatE_len he] at this;rw [Nat.eq_of_mul_eq_mul_right hp0 this],?_⟩) (fun h0 e0 f0 => (h3 h0 (e0.trans (.push _ _ _)) f0).1) (by omega) (by have:=h5 _ rfl;simp only at this;omega) (fun i hi ha => ?_)⟩
 ·simpa using w3
 ·rw [h6 i (by omega) ha]
  exact (Ext.push h es (enc v)).get i hi
end Go.Proofs.Ytkbgkjlgnmlghaa
