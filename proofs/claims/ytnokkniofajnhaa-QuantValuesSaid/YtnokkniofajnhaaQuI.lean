/-
  Corrections: inverses; lists compared.
-/
import Derived.Test.YtnokkniofajnhaaQuK2
import Derived.Test.YtnokkniofajnhaaQuM
import Derived.Test.YtnokkniofajnhaaSymRowsA
namespace Go.Proofs.Ytnokkniofajnhaa
open Go.Sim
set_option linter.unusedVariables false
set_option maxRecDepth 100000

def Kr.rev (k : Kr) : Kr := ⟨k.yn, k.yd, k.xn, k.xd⟩
def turnR (l : List Kr) : List Kr := l.map Kr.rev
theorem kr_len (k : Kr) : k.cells.length = 4 := rfl
theorem kr_ok (k : Kr) : k.cells.all cellOK = true := rfl
theorem gt_map {α β : Type} [Inhabited α] [Inhabited β] (f : α → β) (l : List α) {i : Int} (h0 : 0 ≤ i) (h1 : i < l.length) : gt (l.map f) i = f (gt l i) := by
  unfold gt
  rw [List.getD, List.getD, List.getElem?_map, List.getElem?_eq_getElem (by omega)]
  rfl
theorem gt_ext {α : Type} [Inhabited α] {l m : List α} (hl : l.length = m.length) (h : ∀ i : Int, 0 ≤ i → i < l.length → gt l i = gt m i) : l = m := by
  refine List.ext_getElem hl (fun i h1 h2 => ?_)
  have := h i (by omega) (by omega)
  unfold gt at this
  rw [Int.toNat_natCast, List.getD_eq_getElem?_getD, List.getD_eq_getElem?_getD, List.getElem?_eq_getElem h1, List.getElem?_eq_getElem h2] at this
  exact this
theorem gt_set {α : Type} [Inhabited α] (l : List α) {i j : Int} (hi : 0 ≤ i) (hj : 0 ≤ j) (hl : i < l.length) (x : α) : gt (l.set i.toNat x) j = if j = i then x else gt l j := by
  unfold gt
  rw [List.getD_eq_getElem?_getD, List.getD_eq_getElem?_getD, List.getElem?_set]
  by_cases e : j = i
  · subst e; rw [if_pos rfl, if_pos (by omega), if_pos rfl]; rfl
  · rw [if_neg (by omega), if_neg e]
theorem gt_take {α : Type} [Inhabited α] (l : List α) {i : Int} (h0 : 0 ≤ i) (h1 : i < l.length) : l.take (i + 1).toNat = l.take i.toNat ++ [gt l i] := by
  have e : (i + 1).toNat = i.toNat + 1 := by omega
  have h2 : i.toNat < l.length := by omega
  unfold gt
  rw [e, List.take_add_one, List.getD_eq_getElem?_getD, List.getElem?_eq_getElem h2]
  rfl
theorem turnR_len (l : List Kr) : (turnR l).length = l.length := by unfold turnR; simp
theorem toK_turn (l : List Kr) : toK (turnR l) = turnK (toK l) := by unfold toK turnR turnK; rw [List.map_map, List.map_map]; rfl
theorem turnR_turnR (l : List Kr) : turnR (turnR l) = l := by
  unfold turnR
  rw [List.map_map]
  have : Kr.rev ∘ Kr.rev = id := rfl
  rw [this, List.map_id]
theorem allI64.turn {l : List Kr} (h : allI64 l) : allI64 (turnR l) := by
  intro i h0 h1
  rw [turnR_len] at h1
  unfold turnR
  rw [gt_map Kr.rev l h0 h1]
  obtain ⟨a, b, c, d⟩ := h i h0 h1
  exact ⟨c, d, a, b⟩
theorem GoodL.turn {l : List Kr} (g : GoodL l) : GoodL (turnR l) := by
  refine ⟨by rw [turnR_len]; exact g.two, by rw [turnR_len]; exact g.most, fun i i0 i1 => ?_, fun i i0 i1 => ?_⟩ <;> rw [turnR_len] at i1
  · unfold turnR
    rw [gt_map Kr.rev l i0 i1]
    exact ⟨(g.small i i0 i1).2, (g.small i i0 i1).1⟩
  · rw [toK_turn]
    have := g.corr.turn.incr i i0 (by rw [turn_len, toK_len]; exact i1)
    exact this

variable {F : Prims}
  {call : FuncId → List Value → AHeap → (Value → AHeap → Prop) → Prop}
  {head : FuncId → Nat → Nat → SS → (Exit → SS → Prop) → Prop}
  {arith : BinOp → IntKind → Int → Int → Int}
  {cmp : BinOp → Int → Int → Bool}
  {scmp : BinOp → ByteArray → ByteArray → Bool}
  {bnot : Bool → Bool}
  {bsame : Bool → Bool → Bool}
  {conv : IntKind → Int → Int}
  {neg : IntKind → Int → Int}
  {imax : Int → Int → Int}
  {imin : Int → Int → Int}
  {ofNat : Nat → Int}
  {slen : ByteArray → Int}
  {place : Nat → Int → Nat → Nat}
  {inR : Int → Nat → Prop}
  {nz : Int → Prop}
  {geZ : Int → Prop}
  {rd : AHeap → Nat → Nat → Nat → List Value → Prop}
  {wr : AHeap → Nat → Nat → List Value → AHeap → Prop}
  {push : AHeap → Nat → List Value → AHeap}
  {next : AHeap → Nat}
  {mkOK : Int → Int → Prop}
  {nat : Int → Nat}
  {zeros : List Value → Int → List Value}
  {sadd : ByteArray → ByteArray → (ByteArray → Prop) → Prop}
  {eqAgg : TypeId → Array Value → Array Value → (Bool → Prop) → Prop}
  {cut : Nat → Int → Prop}
  {slc : TypeId → Value → Option Value → Option Value → Option Value → (Option Addr → Nat → Nat → Prop) → Prop}
  {sslc : TypeId → ByteArray → Option Value → Option Value → (ByteArray → Prop) → Prop}
  {strAt : ByteArray → Int → (Int → Prop) → Prop}
  {part : TypeId → Array Value → Nat → Value → Prop}
  {app : List TypeId → List Value → AHeap → (Option Addr → Nat → Nat → AHeap → Prop) → Prop}
  {cpy : List TypeId → List Value → AHeap → (Int → AHeap → Prop) → Prop}
  {putAt : AHeap → Nat → Nat → List Value → AHeap}
  {fresh : AHeap → AHeap}
  {lowered : AHeap → AHeap → AHeap}
  {bump : AHeap → Nat → AHeap}
  {wrote : AHeap → AHeap → Bool}
  {addN : Nat → Nat → Nat}
  {lt : Nat → Nat → Prop}
  {ne : Nat → Nat → Prop}
  {fpAll : Bool → Bool → Bool → Nat → Nat → Prop}
  {brk : (Unit → Prop) → Prop}
  {yn : Nat → Nat}
  {rng : FuncId → Nat → SS → (Exit → SS → Prop) → Prop}
  {mget : TypeId → Value → Value → AHeap → Value → Bool → Prop}
  {mput : TypeId → Value → Value → Value → AHeap → AHeap → Prop}
  {mnew : AHeap → AHeap}
  {bytes : TypeId → TypeId → Option Addr → Nat → AHeap → ByteArray → Prop}
  {clr : List TypeId → List Value → AHeap → AHeap → Prop}
  (hA : AP F ⟨call, head, arith, cmp, scmp, bnot, bsame, conv, neg, imax, imin, ofNat, slen, place, inR, nz, geZ, rd, wr, push, next, mkOK, nat, zeros, sadd, eqAgg, cut, slc, sslc, strAt, part, app, cpy, putAt, fresh, lowered, bump, wrote, addN, lt, ne, fpAll, brk, yn, rng, mget, mput, mnew, bytes, clr⟩)
include hA

theorem long_ok {h : AHeap} (hlow : h.low ≤ h.next) {a : Option Addr} {n c : Nat} {Q : Value → AHeap → Prop} (hQ : ∀ r : Bool, (r = true ↔ 60 < n) → Q (.bool r) h) : call 9 [.slice a n c] h Q := by
  refine hA.bodyR Try.func9 r9_ok (hA.alike _ _ _ rfl) hlow ?_; (try (conv => cbv)); repeat (refine brk_ok hA ?_; (try (conv => cbv)))
  refine hQ _ ?_
  rw [e_gtr hA, e_ofNat hA, decide_eq_true_iff]
  omega

theorem same_loop {h0 : AHeap} (hlow : h0.low ≤ h0.next) {a a' : Option Addr} {n c c' : Nat} {l l' : List Kr} (hl : Ks h0 a n l) (hi : allI64 l) (hl' : Ks h0 a' n l') (hi' : allI64 l') (hn : n ≤ 100000) {Q : Exit → SS → Prop}
    (hbad : ∀ h', l ≠ l' → Ext h0 h' → ∀ e kn K, Q .ret ⟨(4, .bool false) :: e, kn, K, h'⟩) (hok : ∀ h' kn, l = l' → Ext h0 h' → Q (.exit 0) ⟨[], kn, [], h'⟩) :
    ∀ (m : Nat) (i : Int) (h : AHeap), (n - i).toNat ≤ m → 0 ≤ i → i ≤ n → (∀ j : Int, 0 ≤ j → j < i → gt l j = gt l' j) → Ext h0 h →
      head 16 4 0 ⟨[(0, .slice a n c), (1, .slice a' n c'), (5, .int .i64 i)], 0, [], h⟩ Q := by
  have hlen := hl.len
  have hlen' := hl'.len
  intro m
  induction m with
  | zero =>
    intro i h hm i0 i1 hall he
    refine hA.roundR Try.func16 r16_ok ?_; (try (conv => cbv)); repeat (refine brk_ok hA ?_; (try (conv => cbv)))
    refine br (i < n) (by rw [e_lss hA, e_ofNat hA]) (fun c1 => by omega) (fun c1 => ?_) <;> (try (conv => cbv)) <;> repeat (refine brk_ok hA ?_; (try (conv => cbv)))
    exact hok h _ (gt_ext (by omega) (fun j j0 j1 => hall j j0 (by omega))) he
  | succ m ih =>
  intro i h hm i0 i1 hall he
  by_cases ci : i < n
  rotate_left
  · refine hA.roundR Try.func16 r16_ok ?_; (try (conv => cbv)); repeat (refine brk_ok hA ?_; (try (conv => cbv)))
    refine br (i < n) (by rw [e_lss hA, e_ofNat hA]) (fun c1 => absurd c1 ci) (fun c1 => ?_) <;> (try (conv => cbv)) <;> repeat (refine brk_ok hA ?_; (try (conv => cbv)))
    exact hok h _ (gt_ext (by omega) (fun j j0 j1 => hall j j0 (by omega))) he
  obtain ⟨b, o, rfl⟩ := ks_some hl (by omega)
  obtain ⟨b', o', rfl⟩ := ks_some hl' (by omega)
  obtain ⟨h9, hh9⟩ : ∃ z, z = bump h 9 := ⟨_, rfl⟩
  have e9 : Ext h0 h9 := by rw [hh9]; exact he.trans (ext_bump hA _ _)
  obtain ⟨_, a1, a2, a3, a4, hg, _, _, _, _, r1, _, _⟩ := ks_in (hl.ext e9) hi (i := i) i0 ci
  obtain ⟨_, p1, p2, p3, p4, hp, _, _, _, _, q1, _, _⟩ := ks_in (hl'.ext e9) hi' (i := i) i0 ci
  have r2 := rd_ok hA r1
  have q2 := rd_ok hA q1
  obtain ⟨r, hr1, hr2⟩ := eqK a1 a2 a3 a4 p1 p2 p3 p4
  refine hA.roundR Try.func16 r16_ok ?_; (try (conv => cbv)); repeat (refine brk_ok hA ?_; (try (conv => cbv)))
  refine br (i < n) (by rw [e_lss hA, e_ofNat hA]) (fun c1 => ?_) (fun c1 => absurd ci c1) <;> (try (conv => cbv)) <;> repeat (refine brk_ok hA ?_; (try (conv => cbv)))
  rw [← hh9]
  ((try (conv => cbv)); repeat ((first | refine brk_ok hA ?_ | refine ⟨in_ok hA (by omega) (by omega), ?_⟩ | refine ⟨_, _, rfl, in_ok hA (by omega) (by omega), ?_⟩ | refine ⟨nz_ok hA (by omega), ?_⟩ | refine ⟨geZ_ok hA (by omega), ?_⟩ | refine ⟨ne_ok hA (by omega), ?_⟩ | refine ⟨wrote_no hA (by assumption), ?_⟩ | refine ⟨wrote_no hA (.refl _), ?_⟩ | refine ⟨_, ‹rd _ _ _ _ _›, ?_⟩ | refine ⟨_, _, ‹rd _ _ _ _ _›, ?_⟩ | refine ⟨_, _, _, _, ‹rd _ _ _ _ _›, ?_⟩ | refine ⟨_, ‹wr _ _ _ _ _›, ?_⟩); (try (conv => cbv))))
  rw [e_eqAgg hA]
  refine ⟨guardK, r, hr1, ?_⟩
  have same : gt l i = gt l' i ↔ r = true := by
    rw [hg, hp, hr2]
    constructor
    · intro q; cases q; exact ⟨⟨rfl, rfl⟩, rfl, rfl⟩
    · rintro ⟨⟨rfl, rfl⟩, rfl, rfl⟩; rfl
  cases r with
  | true =>
    ((try (conv => cbv)); repeat (refine brk_ok hA ?_; (try (conv => cbv))))
    rw [show bnot true = false by rw [e_bnot hA]; rfl]
    ((try (conv => cbv)); repeat (refine brk_ok hA ?_; (try (conv => cbv))))
    rw [add64 hA (by omega) (by omega)]
    refine ih (i + 1) h9 (by omega) (by omega) (by omega) (fun j j0 j1 => ?_) e9
    by_cases z : j = i
    · subst z; exact same.2 rfl
    · exact hall j j0 (by omega)
  | false =>
    ((try (conv => cbv)); repeat (refine brk_ok hA ?_; (try (conv => cbv))))
    rw [show bnot false = true by rw [e_bnot hA]; rfl]
    ((try (conv => cbv)); repeat (refine brk_ok hA ?_; (try (conv => cbv))))
    exact hbad h9 (fun q => by have := same.1 (by rw [q]); cases this) e9 _ _ _

theorem same_ok {h : AHeap} (hlow : h.low ≤ h.next) {a a' : Option Addr} {n n' c c' : Nat} {l l' : List Kr} (hl : Ks h a n l) (hi : allI64 l) (hl' : Ks h a' n' l') (hi' : allI64 l') (hn : n ≤ 100000) {Q : Value → AHeap → Prop}
    (hQ : ∀ (r : Bool) h', (r = true ↔ l = l') → Ext h h' → Q (.bool r) h') : call 16 [.slice a n c, .slice a' n' c'] h Q := by
  have hlen := hl.len
  have hlen' := hl'.len
  refine hA.bodyR Try.func16 r16_ok (hA.alike _ _ _ rfl) hlow ?_; (try (conv => cbv)); repeat (refine brk_ok hA ?_; (try (conv => cbv)))
  refine br ((n : Int) ≠ n') (by rw [e_neq hA, e_ofNat hA, e_ofNat hA]) (fun c1 => ?_) (fun c1 => ?_) <;> (try (conv => cbv)) <;> repeat (refine brk_ok hA ?_; (try (conv => cbv)))
  · exact hQ false h ⟨(fun q => by cases q), fun q => by rw [q] at hlen; omega⟩ (.refl h)
  obtain rfl : n = n' := by omega
  refine same_loop hA hlow hl hi hl' hi' hn (fun h' hg x' e kn K => ?_) (fun h' kn hg x' => ?_) n 0 h (by omega) (by omega) (by omega) (fun j j0 j1 => by omega) (.refl h)
  · ((try (conv => cbv)); repeat (refine brk_ok hA ?_; (try (conv => cbv))))
    exact hQ false h' ⟨(fun q => by cases q), fun q => absurd q hg⟩ x'
  · ((try (conv => cbv)); repeat (refine brk_ok hA ?_; (try (conv => cbv))))
    exact hQ true h' ⟨fun _ => hg, fun _ => rfl⟩ x'

omit hA in
theorem copies_kr (n : Nat) : copies [.int .i64 0, .int .i64 0, .int .i64 0, .int .i64 0] n = (List.replicate n (default : Kr)).flatMap Kr.cells := by
  induction n with
  | zero => rfl
  | succ n ih => rw [List.replicate_succ, List.flatMap_cons, ← ih]; rfl

theorem inv_loop {h0 : AHeap} (hlow : h0.low ≤ h0.next) {a : Option Addr} {n c rb : Nat} {l : List Kr} (hl : Ks h0 a n l) (hi : allI64 l) (hn : n ≤ 100000) (hrb : h0.next ≤ rb) {Q : Exit → SS → Prop}
    (hQ : ∀ h' kn, Own h' rb 4 ((turnR l).flatMap Kr.cells) → rb < h'.next → Ext h0 h' → Q (.exit 0) ⟨[(3, .slice (some ⟨rb, 0, none⟩) n n)], kn, [], h'⟩) :
    ∀ (m : Nat) (i : Int) (h : AHeap) (r : List Kr), (n - i).toNat ≤ m → 0 ≤ i → i ≤ n → r.length = n → (∀ j : Int, 0 ≤ j → j < i → gt r j = (gt l j).rev) → Own h rb 4 (r.flatMap Kr.cells) → rb < h.next → Ext h0 h →
      head 37 3 0 ⟨[(3, .slice (some ⟨rb, 0, none⟩) n n), (9, .slice a n c), (10, .int .i64 (ofNat n)), (11, .int .i64 i)], 0, [], h⟩ Q := by
  have hlen := hl.len
  have done : ∀ (i : Int) (h : AHeap) (r : List Kr), ¬ i < n → r.length = n → (∀ j : Int, 0 ≤ j → j < i → gt r j = (gt l j).rev) → Own h rb 4 (r.flatMap Kr.cells) → Own h rb 4 ((turnR l).flatMap Kr.cells) := by
    intro i h r hc hr hall ho
    have : turnR l = r := gt_ext (by rw [turnR_len]; omega) (fun j j0 j1 => by
      rw [turnR_len] at j1
      rw [hall j j0 (by omega)]
      exact gt_map Kr.rev l j0 j1)
    rw [this]; exact ho
  intro m
  induction m with
  | zero =>
    intro i h r hm i0 i1 hr hall ho hb he
    refine hA.roundR Try.func37 r37_ok ?_; (try (conv => cbv)); repeat (refine brk_ok hA ?_; (try (conv => cbv)))
    refine br (i < n) (by rw [e_lss hA, e_ofNat hA]) (fun c1 => by omega) (fun c1 => ?_) <;> (try (conv => cbv)) <;> repeat (refine brk_ok hA ?_; (try (conv => cbv)))
    exact hQ h _ (done i h r c1 hr hall ho) hb he
  | succ m ih =>
  intro i h r hm i0 i1 hr hall ho hb he
  by_cases ci : i < n
  rotate_left
  · refine hA.roundR Try.func37 r37_ok ?_; (try (conv => cbv)); repeat (refine brk_ok hA ?_; (try (conv => cbv)))
    refine br (i < n) (by rw [e_lss hA, e_ofNat hA]) (fun c1 => absurd c1 ci) (fun c1 => ?_) <;> (try (conv => cbv)) <;> repeat (refine brk_ok hA ?_; (try (conv => cbv)))
    exact hQ h _ (done i h r c1 hr hall ho) hb he
  obtain ⟨b, o, rfl⟩ := ks_some hl (by omega)
  obtain ⟨_, a1, a2, a3, a4, hg, _, _, _, _, r1, _, _⟩ := ks_in (hl.ext he) hi (i := i) i0 ci
  have r2 := rd_ok hA r1
  obtain ⟨h', p1, p2, p3⟩ := Own.setRow ho kr_len (i := i.toNat) (by omega) ⟨a3, a4, a1, a2⟩
  have p4 : wr h rb (place 0 i 4) [.int .i64 a3, .int .i64 a4, .int .i64 a1, .int .i64 a2] h' := by
    rw [e_wr hA, e_place hA, Nat.zero_add]
    exact p1
  refine hA.roundR Try.func37 r37_ok ?_; (try (conv => cbv)); repeat (refine brk_ok hA ?_; (try (conv => cbv)))
  refine br (i < n) (by rw [e_lss hA, e_ofNat hA]) (fun c1 => ?_) (fun c1 => absurd ci c1) <;> (try (conv => cbv)) <;> repeat (refine brk_ok hA ?_; (try (conv => cbv)))
  ((try (conv => cbv)); repeat ((first | refine brk_ok hA ?_ | refine ⟨in_ok hA (by omega) (by omega), ?_⟩ | refine ⟨_, _, rfl, in_ok hA (by omega) (by omega), ?_⟩ | refine ⟨nz_ok hA (by omega), ?_⟩ | refine ⟨geZ_ok hA (by omega), ?_⟩ | refine ⟨ne_ok hA (by omega), ?_⟩ | refine ⟨wrote_no hA (by assumption), ?_⟩ | refine ⟨wrote_no hA (.refl _), ?_⟩ | refine ⟨_, ‹rd _ _ _ _ _›, ?_⟩ | refine ⟨_, _, ‹rd _ _ _ _ _›, ?_⟩ | refine ⟨_, _, _, _, ‹rd _ _ _ _ _›, ?_⟩ | refine ⟨_, ‹wr _ _ _ _ _›, ?_⟩); (try (conv => cbv))))
  rw [add64 hA (by omega) (by omega)]
  refine ih (i + 1) h' _ (by omega) (by omega) (by omega) (by rw [List.length_set]; exact hr) (fun j j0 j1 => ?_) p2 (by rw [p3.next]; exact hb) (p3.ext he hrb)
  rw [gt_set r i0 j0 (by omega)]
  split
  · rename_i e; rw [e, hg]; rfl
  · exact hall j j0 (by omega)

theorem inv_ok {h : AHeap} (hlow : h.low ≤ h.next) {a : Option Addr} {n c : Nat} {l : List Kr} (hl : Ks h a n l) (hi : allI64 l) (hn : n ≤ 100000) {Q : Value → AHeap → Prop}
    (hQ : ∀ b' h', Own h' b' 4 ((turnR l).flatMap Kr.cells) → h.next ≤ b' → b' < h'.next → Ext h h' → Q (.slice (some ⟨b', 0, none⟩) n n) h') : call 37 [.slice a n c] h Q := by
  have hlen := hl.len
  refine hA.bodyR Try.func37 r37_ok (hA.alike _ _ _ rfl) hlow ?_; (try (conv => cbv)); repeat (refine brk_ok hA ?_; (try (conv => cbv)))
  have en : ofNat n = (n : Int) := e_ofNat hA n
  rw [en]
  refine ⟨mk_ok hA (by omega) (by omega) (by omega), ?_⟩
  ((try (conv => cbv)); repeat (refine brk_ok hA ?_; (try (conv => cbv))))
  have e2 : nat (Int.ofNat n) = n := by rw [e_nat hA]; rfl
  have e3 : zeros [Value.int .i64 0, Value.int .i64 0, Value.int .i64 0, Value.int .i64 0] (Int.ofNat n) = (List.replicate n (default : Kr)).flatMap Kr.cells := by rw [e_zeros hA]; exact copies_kr n
  rw [e2, e3, e_next hA, e_push hA]
  have e1 : Ext h (h.push 4 ((List.replicate n (default : Kr)).flatMap Kr.cells)) := .push _ _ _
  have o1 := Own.push h 4 ((List.replicate n (default : Kr)).flatMap Kr.cells)
  have n1 : (h.push 4 ((List.replicate n (default : Kr)).flatMap Kr.cells)).next = h.next + 1 := rfl
  generalize h.push 4 ((List.replicate n (default : Kr)).flatMap Kr.cells) = h1 at *
  obtain ⟨rb, hrb⟩ : ∃ z, z = h.next := ⟨_, rfl⟩
  rw [← hrb] at o1 ⊢
  refine inv_loop hA hlow hl hi hn (rb := rb) (by omega) (fun h' kn ho hb x' => ?_) n 0 h1 _ (by omega) (by omega) (by omega) (by simp) (fun j j0 j1 => by omega) o1 (by omega) e1
  ((try (conv => cbv)); repeat (refine brk_ok hA ?_; (try (conv => cbv))))
  exact hQ rb h' ho (by omega) hb x'

theorem turned_loop {h0 : AHeap} (hlow : h0.low ≤ h0.next) {a : Option Addr} {n c : Nat} {l : List Kr} (hl : Ks h0 a n l) (hi : allI64 l) (hn : n ≤ 10000) {Q : Exit → SS → Prop}
    (hQ : ∀ h' a' c' kn, Apd h' 4 a' n c' ((turnR l).flatMap Kr.cells) → From h0.next a' → Ext h0 h' → Q (.exit 0) ⟨[(3, .slice a' n c')], kn, [], h'⟩) :
    ∀ (m : Nat) (i : Int) (k : Nat) (h : AHeap) (a' : Option Addr) (c' : Nat), (n - i).toNat ≤ m → 0 ≤ i → i ≤ n → (k : Int) = i → Apd h 4 a' k c' (((turnR l).take i.toNat).flatMap Kr.cells) → From h0.next a' → Ext h0 h →
      head 38 3 0 ⟨[(0, .slice a n c), (3, .slice a' k c'), (4, .int .i64 i)], 0, [], h⟩ Q := by
  have hlen := hl.len
  have done : ∀ (i : Int) (k : Nat) (h : AHeap) (a' : Option Addr) (c' : Nat), ¬ i < n → i ≤ n → (k : Int) = i → Apd h 4 a' k c' (((turnR l).take i.toNat).flatMap Kr.cells) → k = n ∧ Apd h 4 a' n c' ((turnR l).flatMap Kr.cells) := by
    intro i k h a' c' hc hi hk ho
    obtain rfl : k = n := by omega
    rw [List.take_of_length_le (by rw [turnR_len]; omega)] at ho
    exact ⟨rfl, ho⟩
  intro m
  induction m with
  | zero =>
    intro i k h a' c' hm i0 i1 hk ho hf he
    obtain ⟨rfl, ho'⟩ := done i k h a' c' (by omega) i1 hk ho
    refine hA.roundR Try.func38 r38_ok ?_; (try (conv => cbv)); repeat (refine brk_ok hA ?_; (try (conv => cbv)))
    refine br (i < k) (by rw [e_lss hA, e_ofNat hA]) (fun c1 => by omega) (fun c1 => ?_) <;> (try (conv => cbv)) <;> repeat (refine brk_ok hA ?_; (try (conv => cbv)))
    exact hQ h a' c' _ ho' hf he
  | succ m ih =>
  intro i k h a' c' hm i0 i1 hk ho hf he
  by_cases ci : i < n
  rotate_left
  · obtain ⟨rfl, ho'⟩ := done i k h a' c' (by omega) i1 hk ho
    refine hA.roundR Try.func38 r38_ok ?_; (try (conv => cbv)); repeat (refine brk_ok hA ?_; (try (conv => cbv)))
    refine br (i < k) (by rw [e_lss hA, e_ofNat hA]) (fun c1 => by omega) (fun c1 => ?_) <;> (try (conv => cbv)) <;> repeat (refine brk_ok hA ?_; (try (conv => cbv)))
    exact hQ h a' c' _ ho' hf he
  obtain ⟨b, o, rfl⟩ := ks_some hl (by omega)
  obtain ⟨h9, hh9⟩ : ∃ z, z = bump h 15 := ⟨_, rfl⟩
  have x9 : Ext h h9 := by rw [hh9]; exact ext_bump hA _ _
  have e9 := he.trans x9
  obtain ⟨_, a1, a2, a3, a4, hg, _, _, _, _, _, r1, r2⟩ := ks_in (hl.ext e9) hi (i := i) i0 ci
  have q1 := rd_fld hA r1
  have q2 := rd_fld hA r2
  refine hA.roundR Try.func38 r38_ok ?_; (try (conv => cbv)); repeat (refine brk_ok hA ?_; (try (conv => cbv)))
  refine br (i < n) (by rw [e_lss hA, e_ofNat hA]) (fun c1 => ?_) (fun c1 => absurd ci c1) <;> (try (conv => cbv)) <;> repeat (refine brk_ok hA ?_; (try (conv => cbv)))
  rw [← hh9]
  ((try (conv => cbv)); repeat ((first | refine brk_ok hA ?_ | refine ⟨in_ok hA (by omega) (by omega), ?_⟩ | refine ⟨_, _, rfl, in_ok hA (by omega) (by omega), ?_⟩ | refine ⟨nz_ok hA (by omega), ?_⟩ | refine ⟨geZ_ok hA (by omega), ?_⟩ | refine ⟨ne_ok hA (by omega), ?_⟩ | refine ⟨wrote_no hA (by assumption), ?_⟩ | refine ⟨wrote_no hA (.refl _), ?_⟩ | refine ⟨_, ‹rd _ _ _ _ _›, ?_⟩ | refine ⟨_, _, ‹rd _ _ _ _ _›, ?_⟩ | refine ⟨_, _, _, _, ‹rd _ _ _ _ _›, ?_⟩ | refine ⟨_, ‹wr _ _ _ _ _›, ?_⟩); (try (conv => cbv))))
  refine appD_ok hA T22 kr_len (by omega) kr_ok hlow he (by omega) hh9 (v := ⟨a3, a4, a1, a2⟩) ho hf (by omega) (fun a2' c2' h2' hp2 hf2 x2 => ?_)
  ((try (conv => cbv)); repeat (refine brk_ok hA ?_; (try (conv => cbv))))
  rw [add64 hA (by omega) (by omega)]
  refine ih (i + 1) (k + 1) _ a2' c2' (by omega) (by omega) (by omega) (by omega) ?_ hf2 x2
  rw [gt_take (turnR l) i0 (by rw [turnR_len]; omega), show gt (turnR l) i = ⟨a3, a4, a1, a2⟩ by unfold turnR; rw [gt_map Kr.rev l i0 (by omega), hg]; rfl]
  exact hp2

theorem turned_ok {h : AHeap} (hlow : h.low ≤ h.next) {a : Option Addr} {n c : Nat} {l : List Kr} (hl : Ks h a n l) (hi : allI64 l) (hn : n ≤ 10000) {Q : Value → AHeap → Prop}
    (hQ : ∀ a' c' h', Ks h' a' n (turnR l) → Ext h h' → Q (.slice a' n c') h') : call 38 [.slice a n c] h Q := by
  refine hA.bodyR Try.func38 r38_ok (hA.alike _ _ _ rfl) hlow ?_; (try (conv => cbv)); repeat (refine brk_ok hA ?_; (try (conv => cbv)))
  refine turned_loop hA hlow hl hi hn (fun h' a' c' kn hp hf x' => ?_) n 0 0 h none 0 (by omega) (by omega) (by omega) rfl (by simpa using Apd.nil h 4) (.none _) (.refl h)
  ((try (conv => cbv)); repeat (refine brk_ok hA ?_; (try (conv => cbv))))
  exact hQ a' c' h' ⟨hp.cells, kr_len, by omega⟩ x'

end Go.Proofs.Ytnokkniofajnhaa
