import Derived.Test.YtnokkniofajnhaaQuCm
set_option linter.unusedSimpArgs false
set_option linter.unusedVariables false
namespace Go.Proofs.Ytnokkniofajnhaa
open Go.Sim
theorem rat_lt3 {a b c : Rat} (h : a < b) (k : b < c) : a < c:=by grind
theorem gt_ins {α : Type} [Inhabited α] (L : List α) (x : α) {p : Nat} (hp : p ≤ L.length) (i : Int) (i0 : 0 ≤ i) : gt (L.take p ++ x :: L.drop p) i = if i < p then gt L i else if i = p then x else gt L (i - 1):=by
 unfold gt
 simp only [List.getD_eq_getElem?_getD]
 by_cases c : i < p
 ·rw [if_pos c,List.getElem?_append_left (by rw [List.length_take];omega),List.getElem?_take,if_pos (by omega)]
 rw [if_neg c,List.getElem?_append_right (by rw [List.length_take];omega),List.length_take,Nat.min_eq_left hp]
 by_cases e : i = p
 ·rw [if_pos e,show i.toNat - p = 0 by omega];rfl
 ·rw [if_neg e,show i.toNat - p = (i.toNat - p - 1) + 1 by omega,List.getElem?_cons_succ,List.getElem?_drop,show p + (i.toNat - p - 1) = (i - 1).toNat by omega]
theorem ins_len {α : Type} (L : List α) (x : α) {p : Nat} (hp : p ≤ L.length) : (L.take p ++ x :: L.drop p).length = L.length + 1:=by
 rw [List.length_append,List.length_cons,List.length_take,List.length_drop];omega
theorem mem_ins {α : Type} (L : List α) (x y : α) (p : Nat) : y ∈ L.take p ++ x :: L.drop p ↔ y ∈ L ∨ y = x:=by
 have h : y ∈ L ↔ y ∈ L.take p ∨ y ∈ L.drop p:=by rw [← List.mem_append,List.take_append_drop]
 rw [List.mem_append,List.mem_cons,h]
 constructor
 ·rintro (a | a | a)
  ·exact .inl (.inl a)
  ·exact .inr a
  ·exact .inl (.inr a)
 ·rintro ((a | a) | a)
  ·exact .inl a
  ·exact .inr (.inr a)
  ·exact .inr (.inl a)
structure PairIs (l m : List Kr) (V W : List F2) (O : List Kr) : Prop where
 strict : StrictOn W 0 W.length
 mem : ∀ x,x ∈ W ↔ x ∈ V
 len : O.length = W.length
 at_ : ∀ i : Int,0 ≤ i → i < W.length → KnotAt l m (gt W i).q (gt O i)
 ok : ∀ i : Int,0 ≤ i → i < W.length → okF (gt W i).n (gt W i).d
theorem PairIs.nil (l m : List Kr) : PairIs l m [] [] []:=⟨fun p q p0 pq q1 => by simp at q1;omega,fun x => Iff.rfl,rfl,fun i i0 i1 => by simp at i1;omega,fun i i0 i1 => by simp at i1;omega⟩
theorem KnotAt.x {l m : List Kr} {q : Rat} {k : Kr} (h : KnotAt l m q k) : isF k.xn k.xd (rq k.xn k.xd) ∧ ValQ (turnK (toK l)) q (rq k.xn k.xd):=by
 obtain ⟨x,y,h1,h2,h3,h4⟩:=h
 rw [h3.rq]
 exact ⟨h3,h1⟩
theorem KnotAt.lt {l m : List Kr} (g1 : GoodL l) {q q' : Rat} {k k' : Kr} (h : KnotAt l m q k) (h' : KnotAt l m q' k') : (rq k.xn k.xd < rq k'.xn k'.xd ↔ q < q') ∧ (rq k.xn k.xd = rq k'.xn k'.xd ↔ q = q'):=by
 have:=ValQ.iff g1.corr.turn h.x.2 h'.x.2
 exact ⟨this.1.symm,this.2.symm⟩
structure PlaceIs (O : List Kr) (k : Kr) (p : Nat) : Prop where
 le : p ≤ O.length
 low : ∀ j : Int,0 ≤ j → j < p → rq (gt O j).xn (gt O j).xd < rq k.xn k.xd
 high : p < O.length → ¬ rq (gt O p).xn (gt O p).xd < rq k.xn k.xd
theorem PairIs.there {l m : List Kr} (g1 : GoodL l) {V W : List F2} {O : List Kr} (h : PairIs l m V W O) {x : F2} {k : Kr} (hx : okF x.n x.d) (hk : KnotAt l m x.q k) {p : Nat} (hp : p < O.length) (e : gt O p = k) : PairIs l m (V ++ [x]) W O:=by
 have lp : (p : Int) < W.length:=by have:=h.len;omega
 have kp:=h.at_ p (by omega) lp
 rw [e] at kp
 have eq:=(KnotAt.lt g1 kp hk).2.1 rfl
 have : gt W (p : Int) = x:=f2_eq (h.ok p (by omega) lp) hx eq
 refine ⟨h.strict,fun y => ?_,h.len,h.at_,h.ok⟩
 rw [List.mem_append,List.mem_singleton,h.mem]
 constructor
 ·exact .inl
 ·rintro (a | rfl)
  ·exact a
  ·rw [← h.mem,← this];exact gt_mem W (by omega) lp
theorem PairIs.put {l m : List Kr} (g1 : GoodL l) (g2 : GoodL m) {V W : List F2} {O : List Kr} (h : PairIs l m V W O) {x : F2} {k : Kr} (hx : okF x.n x.d) (hk : KnotAt l m x.q k) {p : Nat} (hp : PlaceIs O k p) (no : p < O.length → gt O p ≠ k) : PairIs l m (V ++ [x]) (W.take p ++ x :: W.drop p) (O.take p ++ k :: O.drop p):=by
 have lp:=hp.le
 have lW:=h.len
 have lpW : p ≤ W.length:=by omega
 have low : ∀ j : Int,0 ≤ j → j < p → (gt W j).q < x.q:=fun j j0 j1 => (KnotAt.lt g1 (h.at_ j j0 (by omega)) hk).1.1 (hp.low j j0 j1)
 have high : ∀ j : Int,p ≤ j → j < W.length → x.q < (gt W j).q:=fun j j0 j1 => by
  have hp' : p < O.length:=by omega
  have kp:=h.at_ p (by omega) (by omega)
  have n1 : ¬ (gt W p).q < x.q:=fun w => hp.high hp' ((KnotAt.lt g1 kp hk).1.2 w)
  have n2 : (gt W p).q ≠ x.q:=fun w => by
   rw [w] at kp
   exact no hp' (kp.uniq g1 g2 hk)
  have n3 : x.q < (gt W p).q:=Rat.lt_of_le_of_ne (Rat.not_lt.1 n1) (Ne.symm n2)
  by_cases e : j = p
  ·rw [e];exact n3
  ·exact rat_lt3 n3 (h.strict p j (by omega) (by omega) j1)
 refine ⟨fun a b a0 ab b1 => ?_,fun y => ?_,?_,fun i i0 i1 => ?_,fun i i0 i1 => ?_⟩
 ·rw [ins_len W x lpW] at b1
  rw [gt_ins W x lpW a a0,gt_ins W x lpW b (by omega)]
  by_cases c1 : b < p
  ·rw [if_pos c1,if_pos (by omega)];exact h.strict a b a0 ab (by omega)
  rw [if_neg c1]
  by_cases c2 : b = p
  ·rw [if_pos c2,if_pos (by omega)];exact low a a0 (by omega)
  rw [if_neg c2]
  by_cases c3 : a < p
  ·rw [if_pos c3];exact h.strict a (b - 1) a0 (by omega) (by omega)
  rw [if_neg c3]
  by_cases c4 : a = p
  ·rw [if_pos c4];exact high (b - 1) (by omega) (by omega)
  rw [if_neg c4];exact h.strict (a - 1) (b - 1) (by omega) (by omega) (by omega)
 ·rw [mem_ins,h.mem,List.mem_append,List.mem_singleton]
 ·rw [ins_len W x lpW,ins_len O k lp,lW]
 ·rw [ins_len W x lpW] at i1
  rw [gt_ins W x lpW i i0,gt_ins O k lp i i0]
  by_cases c1 : i < p
  ·rw [if_pos c1,if_pos c1];exact h.at_ i i0 (by omega)
  rw [if_neg c1,if_neg c1]
  by_cases c2 : i = p
  ·rw [if_pos c2,if_pos c2];exact hk
  rw [if_neg c2,if_neg c2];exact h.at_ (i - 1) (by omega) (by omega)
 ·rw [ins_len W x lpW] at i1
  rw [gt_ins W x lpW i i0]
  by_cases c1 : i < p
  ·rw [if_pos c1];exact h.ok i i0 (by omega)
  rw [if_neg c1]
  by_cases c2 : i = p
  ·rw [if_pos c2];exact hx
  rw [if_neg c2];exact h.ok (i - 1) (by omega) (by omega)
theorem PairIs.compose {l m : List Kr} (g1 : GoodL l) (g2 : GoodL m) (w : Within l m) {W : List F2} {O : List Kr} (h : PairIs l m (midList l m) W O) :
  (40 < O.length → ComposeIs l m [] 4) ∧ (O.length ≤ 40 → ∀ i : Int,0 ≤ i → i < O.length → ¬ smallK (gt O i) → ComposeIs l m [] 16) ∧ (O.length ≤ 40 → (∀ i : Int,0 ≤ i → i < O.length → smallK (gt O i)) → ComposeIs l m O 0):=by
 have lW:=h.len
 refine ⟨fun c => ?_,fun c i i0 i1 ns => ?_,fun c s => ?_⟩
 ·exact .inr (.inr (.inr ⟨g1,g2,w,W,⟨h.strict,h.mem⟩,.inl ⟨by omega,rfl,rfl⟩⟩))
 ·exact .inr (.inr (.inr ⟨g1,g2,w,W,⟨h.strict,h.mem⟩,.inr (.inl ⟨by omega,⟨i,gt O i,i0,by omega,h.at_ i i0 (by omega),ns⟩,rfl,rfl⟩)⟩))
 ·exact .inr (.inr (.inr ⟨g1,g2,w,W,⟨h.strict,h.mem⟩,.inr (.inr ⟨by omega,rfl,lW,fun i i0 i1 => ⟨h.at_ i i0 i1,s i i0 (by omega)⟩⟩)⟩))
theorem StrictOn.same {W W' : List F2} (h : StrictOn W 0 W.length) (h' : StrictOn W' 0 W'.length) (e : ∀ x,x ∈ W ↔ x ∈ W') (ok : ∀ x,x ∈ W → okF x.n x.d) : W = W':=by
 have key : ∀ (W W' : List F2),StrictOn W 0 W.length → StrictOn W' 0 W'.length → (∀ x,x ∈ W ↔ x ∈ W') → W = W':=by
  intro W
  induction W with
  | nil => intro W' _ _ e;cases W' with
   | nil => rfl
   | cons y W' => have:=(e y).2 List.mem_cons_self;cases this
  | cons x W ih =>
   intro W' h h' e
   cases W' with
   | nil => have:=(e x).1 List.mem_cons_self;cases this
   | cons y W' =>
    have tl : ∀ {a : F2} {L : List F2},StrictOn (a :: L) 0 (a :: L).length → StrictOn L 0 L.length ∧ ∀ z,z ∈ L → a.q < z.q:=fun {a L} s => by
     have g : ∀ i : Int,0 ≤ i → gt (a :: L) (i + 1) = gt L i:=fun i i0 => by
      unfold gt;rw [show (i + 1).toNat = i.toNat + 1 by omega];rfl
     refine ⟨fun p q p0 pq q1 => ?_,fun z hz => ?_⟩
     ·have:=s (p + 1) (q + 1) (by omega) (by omega) (by rw [List.length_cons];omega)
      rwa [g p p0,g q (by omega)] at this
     ·obtain ⟨i,i0,i1,rfl⟩:=mem_gt hz
      have:=s 0 (i + 1) (by omega) (by omega) (by rw [List.length_cons];omega)
      rwa [g i i0] at this
    obtain ⟨s1,s2⟩:=tl h
    obtain ⟨t1,t2⟩:=tl h'
    have exy : x = y:=by
     rcases List.mem_cons.1 ((e x).1 List.mem_cons_self) with q | q
     ·exact q
     ·rcases List.mem_cons.1 ((e y).2 List.mem_cons_self) with r | r
      ·exact r.symm
      ·exact absurd (rat_lt3 (t2 x q) (s2 y r)) Rat.lt_irrefl
    subst exy
    rw [ih W' s1 t1 (fun z => ?_)]
    constructor
    ·intro hz
     rcases List.mem_cons.1 ((e z).1 (List.mem_cons_of_mem _ hz)) with q | q
     ·rw [q] at hz;exact absurd (s2 x hz) Rat.lt_irrefl
     ·exact q
    ·intro hz
     rcases List.mem_cons.1 ((e z).2 (List.mem_cons_of_mem _ hz)) with q | q
     ·rw [q] at hz;exact absurd (t2 x hz) Rat.lt_irrefl
     ·exact q
 exact key W W' h h' e
theorem ComposeIs.uniq {l m o o' : List Kr} {e e' : Int} (h : ComposeIs l m o e) (k : ComposeIs l m o' e') : o = o' ∧ e = e':=by
 have cz : ∀ {l : List Kr} {e : Int},GoodL l → CheckIs l e → e = 0:=fun g c => c.good.2 g
 rcases h with ⟨a,b,c⟩ | ⟨a,a1,b,c⟩ | ⟨a,a1,b,c,d⟩ | ⟨a,a1,b,W,mW,c⟩ <;> rcases k with ⟨a',b',c'⟩ | ⟨a',a1',b',c'⟩ | ⟨a',a1',b',c',d'⟩ | ⟨a',a1',b',W',mW',c'⟩
 ·exact ⟨by rw [c,c'],b.uniq b'⟩
 ·exact absurd a' a
 ·exact absurd a' a
 ·exact absurd a' a
 ·exact absurd a a'
 ·exact ⟨by rw [c,c'],b.uniq b'⟩
 ·exact absurd a1' a1
 ·exact absurd a1' a1
 ·exact absurd a a'
 ·exact absurd a1 a1'
 ·exact ⟨by rw [d,d'],by omega⟩
 ·exact absurd b' b
 ·exact absurd a a'
 ·exact absurd a1 a1'
 ·exact absurd b b'
 obtain rfl : W = W':=StrictOn.same mW.1 mW'.1 (fun x => (mW.2 x).trans (mW'.2 x).symm) (fun x hx => (midF a a1 ((mW.2 x).1 hx)).ok)
 rcases c with ⟨p,q,r⟩ | ⟨p,⟨i,k,i0,i1,ki,ns⟩,q,r⟩ | ⟨p,q,r,s⟩ <;> rcases c' with ⟨p',q',r'⟩ | ⟨p',⟨i',k',i0',i1',ki',ns'⟩,q',r'⟩ | ⟨p',q',r',s'⟩
 ·exact ⟨by rw [r,r'],by omega⟩
 ·omega
 ·omega
 ·omega
 ·exact ⟨by rw [r,r'],by omega⟩
 ·exact absurd (by rw [ki.uniq a a1 (s' i i0 i1).1];exact (s' i i0 i1).2) ns
 ·omega
 ·exact absurd (by rw [ki'.uniq a a1 (s i' i0' i1').1];exact (s i' i0' i1').2) ns'
 ·refine ⟨?_,by omega⟩
  refine List.ext_getElem (by omega) (fun j j0 j1 => ?_)
  have h1:=(s j (by omega) (by omega)).1.uniq a a1 (s' j (by omega) (by omega)).1
  unfold gt at h1
  rwa [Int.toNat_natCast,List.getD_eq_getElem?_getD,List.getD_eq_getElem?_getD,List.getElem?_eq_getElem j0,List.getElem?_eq_getElem j1] at h1
