/-
  The law OriginRemade.
-/
import Derived.Test.YtopppccddnplkaaORemadeP
import Derived.Test.YtopppccddnplkaaOGreat
import Derived.Test.YtopppccddnplkaaSeatL7
namespace Go.Proofs.Ytopppccddnplkaa
open Go.Sim
open Classical
set_option linter.unusedVariables false
set_option maxRecDepth 100000

theorem Small.ok' {l : List Rec} (h : Small l) (hr : ∀ y ∈ l, okR y) : okL l := by
  intro r hm
  obtain ⟨j, hj⟩ := List.getElem?_of_mem hm
  have hjl : j < l.length := (List.getElem?_eq_some_iff.1 hj).1
  have := h.1 j (by omega) (by omega)
  unfold rat at this
  rw [Int.toNat_natCast, List.getD, hj] at this
  exact ⟨hr r hm, Nat.le_trans this.1 (by omega), Nat.le_trans this.2.1 (by omega)⟩
theorem _root_.Go.Sim.Cells.take1 {h : AHeap} {a : Option Addr} {n : Nat} {vs : List Value} (c : Cells h a n 1 vs) {j : Nat} (hj : j ≤ n) : Cells h a j 1 (vs.take j) := by
  have hl := c.length
  cases a with
  | none =>
    obtain ⟨rfl, h2⟩ := c
    obtain rfl : j = 0 := by omega
    rw [h2]
    exact ⟨rfl, by simp⟩
  | some ad =>
    obtain ⟨h1, h2', h3'⟩ := c
    refine ⟨h1, h2', ?_⟩
    unfold AHeap.readG at h3' ⊢
    rw [h1] at h3' ⊢
    simp only [] at h3' ⊢
    cases hc : h.cells? ad.block with
    | none => rw [hc] at h3'; cases h3'
    | some cs =>
      rw [hc] at h3'
      simp only [] at h3' ⊢
      obtain ⟨q1, q2⟩ := readN_eq h3'
      refine readN_some ?_ ?_
      · rw [← q1, List.take_take, Nat.min_eq_left (by omega), Nat.mul_one]
      · rw [List.length_take]; omega
theorem Strs.take {h : AHeap} {a : Option Addr} {n c : Nat} {l : List Str} (p : Strs h a n c l) {j : Nat} (hj : j ≤ n) : Strs h a j c (l.take j) := by
  have hl := p.len
  rcases p with ⟨p, q1, q2⟩ | ⟨q1, q2, q3, q4⟩
  · refine .inl ⟨?_, q1, by omega⟩
    rw [List.map_take]
    exact p.take1 hj
  · refine .inr ⟨q1, by omega, q3, ?_⟩
    rw [List.map_take, q4]; simp

variable {call : FuncId → List Value → AHeap → (Value → AHeap → Prop) → Prop}
  {head : FuncId → Nat → Nat → SS → (Exit → SS → Prop) → Prop}
  {arith : BinOp → IntKind → Int → Int → Int}
  {cmp : BinOp → Int → Int → Bool}
  {scmp : BinOp → ByteArray → ByteArray → Bool}
  {bnot : Bool → Bool}
  {bsame : Bool → Bool → Bool}
  {conv : IntKind → Int → Int}
  {neg : IntKind → Int → Int}
  {imax : Int → Int → Int}
  {imin : Int → Int → Int}
  {ofNat : Nat → Int}
  {slen : ByteArray → Int}
  {place : Nat → Int → Nat → Nat}
  {inR : Int → Nat → Prop}
  {nz : Int → Prop}
  {geZ : Int → Prop}
  {rd : AHeap → Nat → Nat → Nat → List Value → Prop}
  {wr : AHeap → Nat → Nat → List Value → AHeap → Prop}
  {push : AHeap → Nat → List Value → AHeap}
  {next : AHeap → Nat}
  {mkOK : Int → Int → Prop}
  {nat : Int → Nat}
  {zeros : List Value → Int → List Value}
  {sadd : ByteArray → ByteArray → (ByteArray → Prop) → Prop}
  {eqAgg : TypeId → Array Value → Array Value → (Bool → Prop) → Prop}
  {cut : Nat → Int → Prop}
  {slc : TypeId → Value → Option Value → Option Value → Option Value → (Option Addr → Nat → Nat → Prop) → Prop}
  {sslc : TypeId → ByteArray → Option Value → Option Value → (ByteArray → Prop) → Prop}
  {strAt : ByteArray → Int → (Int → Prop) → Prop}
  {part : TypeId → Array Value → Nat → Value → Prop}
  {app : List TypeId → List Value → AHeap → (Option Addr → Nat → Nat → AHeap → Prop) → Prop}
  {cpy : List TypeId → List Value → AHeap → (Int → AHeap → Prop) → Prop}
  {putAt : AHeap → Nat → Nat → List Value → AHeap}
  {fresh : AHeap → AHeap}
  {lowered : AHeap → AHeap → AHeap}
  {bump : AHeap → Nat → AHeap}
  {wrote : AHeap → AHeap → Bool}
  {addN : Nat → Nat → Nat}
  {lt : Nat → Nat → Prop}
  {ne : Nat → Nat → Prop}
  {fpAll : Bool → Bool → Bool → Nat → Nat → Prop}
  {brk : (Unit → Prop) → Prop}
  {yn : Nat → Nat}
  {rng : FuncId → Nat → SS → (Exit → SS → Prop) → Prop}
  {mget : TypeId → Value → Value → AHeap → Value → Bool → Prop}
  {mput : TypeId → Value → Value → Value → AHeap → AHeap → Prop}
  {mnew : AHeap → AHeap}
  {bytes : TypeId → TypeId → Option Addr → Nat → AHeap → ByteArray → Prop}
  {clr : List TypeId → List Value → AHeap → AHeap → Prop}
  (hA : AOK progU hint prims ⟨call, head, arith, cmp, scmp, bnot, bsame, conv, neg, imax, imin, ofNat, slen, place, inR, nz, geZ, rd, wr, push, next, mkOK, nat, zeros, sadd, eqAgg, cut, slc, sslc, strAt, part, app, cpy, putAt, fresh, lowered, bump, wrote, addN, lt, ne, fpAll, brk, yn, rng, mget, mput, mnew, bytes, clr⟩)
include hA

theorem used_loop {h0 : AHeap} (hlow0 : h0.low ≤ h0.next) {al : Option Addr} {nl cl : Nat} {l : List Rec} (hl : Recs h0 al nl l) (hnl : (nl : Int) ≤ 40) {ha : Option Addr} {hn hc : Nat} {ra : Option Addr} {rn rc : Nat} {r : List Str} (hr : Strs h0 ra rn rc r) (hrn : (rn : Int) ≤ 40) (hsm : ∀ i : Int, 0 ≤ i → i < l.length → smallR (rat l i)) {name : Str} {i : Int} (hi0 : 0 ≤ i) (hi1 : i < rn) {la : Int} {Q : Exit → SS → Prop}
    (h1 : ∀ u h', Ext h0 h' → ((sat' r i = name ∨ ∃ k : Int, i < k ∧ k < r.length ∧ 0 ≤ idxOf l (sat' r k) ∧ sat' r i ∈ (rat l (idxOf l (sat' r k))).frm) → u = true) → Q (.exit 4) ⟨[(0, .slice al nl cl), (1, .slice ha hn hc), (2, .string name), (7, .bool true), (8, .slice ra rn rc), (10, .int .i64 la), (11, .int .i64 i), (14, .bool u)], 0, [], h'⟩) :
    ∀ k : Int, 0 ≤ k → k ≤ rn → i < k → ∀ u h, Ext h0 h → ((sat' r i = name ∨ ∃ j : Int, i < j ∧ j < k ∧ 0 ≤ idxOf l (sat' r j) ∧ sat' r i ∈ (rat l (idxOf l (sat' r j))).frm) → u = true) →
      head 7 26 0 ⟨[(0, .slice al nl cl), (1, .slice ha hn hc), (2, .string name), (7, .bool true), (8, .slice ra rn rc), (10, .int .i64 la), (11, .int .i64 i), (14, .bool u), (15, .int .i64 k)], 0, [], h⟩ Q := by
  have hll := hl.len
  have hrl := hr.len
  refine countUp (fun k hk0 hkn ih hik u h e hu => ?_)
  refine hA.roundR Try.func7 r7_ok ?_; (try (conv => cbv)); repeat (refine brk_ok hA ?_; (try (conv => cbv)))
  refine br (k < rn) (by rw [e_lss hA, e_ofNat hA]) (fun c1 => ?_) (fun c1 => ?_) <;> (try (conv => cbv)) <;> repeat (refine brk_ok hA ?_; (try (conv => cbv)))
  · obtain ⟨b, o, s, hae, hbn, hs, hrd⟩ := (hr.ext e).at hk0 c1
    refine ⟨b, o, hae, in_ok hA hk0 c1, ?_⟩
    ((try (conv => cbv)); repeat (refine brk_ok hA ?_; (try (conv => cbv))))
    refine ⟨s, rd_ok hA hrd, ?_⟩
    ((try (conv => cbv)); repeat (refine brk_ok hA ?_; (try (conv => cbv))))
    refine idx_ok hA (e.lowOK hlow0) (hl.ext e) (by omega) (fun kk hkk => ⟨_, rfl, ?_⟩)
    have hic := idx_cases l s
    cases u with
    | true =>
      ((try (conv => cbv)); repeat (refine brk_ok hA ?_; (try (conv => cbv))))
      obtain ⟨h9, hh9⟩ : ∃ z, z = bump h 18 := ⟨_, rfl⟩
      have e9 : Ext h h9 := by rw [hh9, e_bump hA]; exact .bump _ _
      rw [← hh9]
      rw [add64 hA (by omega) (by omega)]
      exact ih c1 (by omega) true h9 (e.trans e9) (fun _ => rfl)
    | false =>
      ((try (conv => cbv)); repeat (refine brk_ok hA ?_; (try (conv => cbv))))
      obtain ⟨h9, hh9⟩ : ∃ z, z = bump h 18 := ⟨_, rfl⟩
      obtain ⟨nh, hnh⟩ : ∃ z, z = next h := ⟨_, rfl⟩
      have e9 : Ext h h9 := by rw [hh9, e_bump hA]; exact .bump _ _
      rw [← hh9, ← hnh]
      have e09 := e.trans e9
      have hu' : ¬ (sat' r i = name ∨ ∃ j : Int, i < j ∧ j < k ∧ 0 ≤ idxOf l (sat' r j) ∧ sat' r i ∈ (rat l (idxOf l (sat' r j))).frm) := fun q => by have := hu q; cases this
      refine br (0 ≤ kk) (by rw [e_geq hA]) (fun c2 => ?_) (fun c2 => ?_) <;> (try (conv => cbv)) <;> repeat (refine brk_ok hA ?_; (try (conv => cbv)))
      · have hk1 : kk < nl := by rcases hic with ⟨q, _⟩ | ⟨_, q, _⟩ <;> omega
        obtain ⟨b2, o2, x2, hae2, hbn2, rel2, _, _, _, r22, _⟩ := (hl.ext e09).at c2 hk1
        obtain ⟨ynm, yhow, yfa, yfn, yfc, yarg, yda, ydn, ydc, ydg⟩ := x2
        have hfr2 : Strs h9 yfa yfn yfc (rat l kk).frm := rel2.frm
        have hfl2 := hfr2.len
        have hs2 := (hsm kk c2 (by omega)).2.1
        simp only [] at r22
        refine ⟨b2, o2, hae2, in_ok hA c2 hk1, ?_⟩
        ((try (conv => cbv)); repeat (refine brk_ok hA ?_; (try (conv => cbv))))
        refine ⟨yfa, yfn, yfc, rd_fld hA r22, ?_⟩
        ((try (conv => cbv)); repeat (refine brk_ok hA ?_; (try (conv => cbv))))
        obtain ⟨b3, o3, t, hae3, hbn3, ht, hrd3⟩ := (hr.ext e09).at hi0 hi1
        refine ⟨b3, o3, hae3, in_ok hA hi0 hi1, ?_⟩
        ((try (conv => cbv)); repeat (refine brk_ok hA ?_; (try (conv => cbv))))
        refine ⟨t, rd_ok hA hrd3, ?_⟩
        ((try (conv => cbv)); repeat (refine brk_ok hA ?_; (try (conv => cbv))))
        have fX := ext_fresh hA h9
        refine has_ok hA (low_fresh hA h9) (hfr2.ext fX) (by omega) (fun g hg => ⟨_, rfl, ?_⟩)
        ((try (conv => cbv)); repeat (refine brk_ok hA ?_; (try (conv => cbv))))
        obtain ⟨hM, hhM⟩ : ∃ v, v = lowered h9 (fresh h9) := ⟨_, rfl⟩
        have eM : Ext h0 hM := by rw [hhM]; exact ext_low hA hlow0 e09 (.refl _)
        rw [← hhM]
        rw [add64 hA (by omega) (by omega)]
        refine ih c1 (by omega) g hM eM (fun q => ?_)
        rcases q with q | ⟨j, j0, j1, j2, j3⟩
        · exact absurd (.inl q) hu'
        · by_cases ej : j = k
          · subst ej
            rw [← hs, ← hkk] at j3
            exact hg.2 (by rw [ht]; exact j3)
          · exact absurd (.inr ⟨j, j0, by omega, j2, j3⟩) hu'
      · rw [add64 hA (by omega) (by omega)]
        refine ih c1 (by omega) false h9 e09 (fun q => ?_)
        rcases q with q | ⟨j, j0, j1, j2, j3⟩
        · exact absurd (.inl q) hu'
        · by_cases ej : j = k
          · subst ej
            rw [← hs, ← hkk] at j2
            exact absurd j2 c2
          · exact absurd (.inr ⟨j, j0, by omega, j2, j3⟩) hu'
  · have : k = rn := by omega
    subst this
    exact h1 u h e (fun q => hu (q.imp id (fun ⟨j, q1, q2, q3⟩ => ⟨j, q1, by omega, q3⟩)))

theorem frm_loop {h0 : AHeap} (hlow0 : h0.low ≤ h0.next) {al : Option Addr} {nl cl : Nat} {l : List Rec} (hl : Recs h0 al nl l) (hnl : (nl : Int) ≤ 40) {ha : Option Addr} {hn hc : Nat} {hv : List Str} (hh : Strs h0 ha hn hc hv) (hhn : (hn : Int) ≤ 1000000) {ra : Option Addr} {rn rc : Nat} {r : List Str} (hr : Strs h0 ra rn rc r) (hrn : (rn : Int) ≤ 40) {name : Str} {i : Int} (hi0 : 0 ≤ i) (hi1 : i < rn) {a : Int} (ha0 : 0 ≤ a) (ha1 : a < nl) (hfl10 : (rat l a).frm.length ≤ 10) (hfrm : ∀ f ∈ (rat l a).frm, f ∈ hv ∨ f ∈ r.take i.toNat) {la : Int} {Q : Exit → SS → Prop}
    (h1 : ∀ h', Ext h0 h' → Q (.exit 2) ⟨[(0, .slice al nl cl), (1, .slice ha hn hc), (2, .string name), (7, .bool true), (8, .slice ra rn rc), (10, .int .i64 la), (11, .int .i64 i)], 0, [], h'⟩) :
    ∀ k : Int, 0 ≤ k → k ≤ (rat l a).frm.length → ∀ h, Ext h0 h →
      head 7 20 0 ⟨[(0, .slice al nl cl), (1, .slice ha hn hc), (2, .string name), (7, .bool true), (8, .slice ra rn rc), (10, .int .i64 la), (11, .int .i64 i), (12, .int .i64 a), (13, .int .i64 k)], 0, [], h⟩ Q := by
  have hll := hl.len
  have hrl := hr.len
  have bt : bnot true = false := by rw [e_bnot hA]; rfl
  have bf : bnot false = true := by rw [e_bnot hA]; rfl
  refine countUp (fun k hk0 hkn ih h e => ?_)
  refine hA.roundR Try.func7 r7_ok ?_; (try (conv => cbv)); repeat (refine brk_ok hA ?_; (try (conv => cbv)))
  obtain ⟨b, o, x, hae, hbn, rel, _, _, _, r2, _⟩ := (hl.ext e).at ha0 ha1
  obtain ⟨xnm, xhow, xfa, xfn, xfc, xarg, xda, xdn, xdc, xdg⟩ := x
  have hfr : Strs h xfa xfn xfc (rat l a).frm := rel.frm
  have hfl := hfr.len
  simp only [] at r2
  refine ⟨b, o, hae, in_ok hA ha0 ha1, ?_⟩
  ((try (conv => cbv)); repeat (refine brk_ok hA ?_; (try (conv => cbv))))
  refine ⟨xfa, xfn, xfc, rd_fld hA r2, ?_⟩
  ((try (conv => cbv)); repeat (refine brk_ok hA ?_; (try (conv => cbv))))
  refine br (k < xfn) (by rw [e_lss hA, e_ofNat hA]) (fun c1 => ?_) (fun c1 => ?_) <;> (try (conv => cbv)) <;> repeat (refine brk_ok hA ?_; (try (conv => cbv)))
  · obtain ⟨h9, hh9⟩ : ∃ z, z = bump h 26 := ⟨_, rfl⟩
    obtain ⟨nh, hnh⟩ : ∃ z, z = next h := ⟨_, rfl⟩
    have e9 : Ext h h9 := by rw [hh9, e_bump hA]; exact .bump _ _
    rw [← hh9, ← hnh]
    have e09 := e.trans e9
    obtain ⟨b2, o2, x2, hae2, hbn2, rel2, _, _, _, r22, _⟩ := (hl.ext e09).at ha0 ha1
    obtain ⟨ynm, yhow, yfa, yfn, yfc, yarg, yda, ydn, ydc, ydg⟩ := x2
    have hfr2 : Strs h9 yfa yfn yfc (rat l a).frm := rel2.frm
    have hfl2 := hfr2.len
    simp only [] at r22
    refine ⟨b2, o2, hae2, in_ok hA ha0 ha1, ?_⟩
    ((try (conv => cbv)); repeat (refine brk_ok hA ?_; (try (conv => cbv))))
    refine ⟨yfa, yfn, yfc, rd_fld hA r22, ?_⟩
    ((try (conv => cbv)); repeat (refine brk_ok hA ?_; (try (conv => cbv))))
    obtain ⟨b3, o3, s, hae3, hbn3, hs, hrd3⟩ := hfr2.at hk0 (by omega)
    refine ⟨b3, o3, hae3, in_ok hA hk0 (by omega), ?_⟩
    ((try (conv => cbv)); repeat (refine brk_ok hA ?_; (try (conv => cbv))))
    refine ⟨s, rd_ok hA hrd3, ?_⟩
    ((try (conv => cbv)); repeat (refine brk_ok hA ?_; (try (conv => cbv))))
    have hmem : s ∈ (rat l a).frm := by rw [hs]; exact sat'_mem hk0 (by omega)
    have fX := ext_fresh hA h9
    refine has_ok hA (low_fresh hA h9) ((hh.ext e09).ext fX) (by omega) (fun g hg => ⟨_, rfl, ?_⟩)
    obtain ⟨hM, hhM⟩ : ∃ v, v = lowered h9 (fresh h9) := ⟨_, rfl⟩
    have eM : Ext h0 hM := by rw [hhM]; exact ext_low hA hlow0 e09 (.refl _)
    cases g with
    | true =>
      ((try (conv => cbv)); repeat (refine brk_ok hA ?_; (try (conv => cbv))))
      rw [bt, ← hhM]
      ((try (conv => cbv)); repeat (refine brk_ok hA ?_; (try (conv => cbv))))
      rw [add64 hA (by omega) (by omega)]
      exact ih (by omega) hM eM
    | false =>
      have hnin : s ∉ hv := fun q => by have := hg.2 q; cases this
      have hin : s ∈ r.take i.toNat := (hfrm s hmem).resolve_left hnin
      ((try (conv => cbv)); repeat (refine brk_ok hA ?_; (try (conv => cbv))))
      rw [bf, ← hhM]
      ((try (conv => cbv)); repeat (refine brk_ok hA ?_; (try (conv => cbv))))
      refine ⟨by rw [e_cut hA]; have := RowV.cap hr; omega, ?_⟩
      ((try (conv => cbv)); repeat (refine brk_ok hA ?_; (try (conv => cbv))))
      have hno : nat i = i.toNat := by rw [e_nat hA]
      obtain ⟨ii, hii⟩ : ∃ v, v = i.toNat := ⟨_, rfl⟩
      rw [hno, ← hii]
      obtain ⟨b4, o4, x4, hae4, hbn4, rel4, _, _, _, r24, _⟩ := (hl.ext eM).at ha0 ha1
      obtain ⟨znm, zhow, zfa, zfn, zfc, zarg, zda, zdn, zdc, zdg⟩ := x4
      have hfr4 : Strs hM zfa zfn zfc (rat l a).frm := rel4.frm
      have hfl4 := hfr4.len
      simp only [] at r24
      refine ⟨b4, o4, hae4, in_ok hA ha0 ha1, ?_⟩
      ((try (conv => cbv)); repeat (refine brk_ok hA ?_; (try (conv => cbv))))
      refine ⟨zfa, zfn, zfc, rd_fld hA r24, ?_⟩
      ((try (conv => cbv)); repeat (refine brk_ok hA ?_; (try (conv => cbv))))
      obtain ⟨b5, o5, s5, hae5, hbn5, hs5, hrd5⟩ := hfr4.at hk0 (by omega)
      refine ⟨b5, o5, hae5, in_ok hA hk0 (by omega), ?_⟩
      ((try (conv => cbv)); repeat (refine brk_ok hA ?_; (try (conv => cbv))))
      refine ⟨s5, rd_ok hA hrd5, ?_⟩
      ((try (conv => cbv)); repeat (refine brk_ok hA ?_; (try (conv => cbv))))
      obtain rfl : s5 = s := by rw [hs5, hs]
      have fM := ext_fresh hA hM
      refine has_ok hA (low_fresh hA hM) (((hr.ext eM).ext fM).take (j := ii) (by omega)) (by omega) (fun g2 hg2 => ⟨_, rfl, ?_⟩)
      obtain rfl : g2 = true := hg2.2 (by rw [hii]; exact hin)
      obtain ⟨hN, hhN⟩ : ∃ v, v = lowered hM (fresh hM) := ⟨_, rfl⟩
      have eN : Ext h0 hN := by rw [hhN]; exact ext_low hA hlow0 eM (.refl _)
      ((try (conv => cbv)); repeat (refine brk_ok hA ?_; (try (conv => cbv))))
      rw [bt, ← hhN]
      ((try (conv => cbv)); repeat (refine brk_ok hA ?_; (try (conv => cbv))))
      rw [add64 hA (by omega) (by omega)]
      exact ih (by omega) hN eN
  · exact h1 h e

theorem remade_loop {h0 : AHeap} (hlow0 : h0.low ≤ h0.next) {al : Option Addr} {nl cl : Nat} {l : List Rec} (hl : Recs h0 al nl l) (hnl : (nl : Int) ≤ 40) {ha : Option Addr} {hn hc : Nat} {hv : List Str} (hh : Strs h0 ha hn hc hv) (hhn : (hn : Int) ≤ 1000000) {ra : Option Addr} {rn rc : Nat} {r : List Str} (hr : Strs h0 ra rn rc r) (hrn : (rn : Int) ≤ 40) (hsm : ∀ i : Int, 0 ≤ i → i < l.length → smallR (rat l i)) {name : Str} (hrm : ∀ i : Int, 0 ≤ i → i < r.length → ∃ a, RMAt l hv name r i a) {Q : Exit → SS → Prop}
    (h1 : ∀ h', Ext h0 h' → Q (.exit 0) ⟨[(7, .bool true)], 0, [], h'⟩) :
    ∀ i : Int, 0 ≤ i → i ≤ rn → ∀ la h, Ext h0 h → (∀ a, RMAt l hv name r i a → la < a) →
      head 7 13 0 ⟨[(0, .slice al nl cl), (1, .slice ha hn hc), (2, .string name), (7, .bool true), (8, .slice ra rn rc), (10, .int .i64 la), (11, .int .i64 i)], 0, [], h⟩ Q := by
  have hll := hl.len
  have hrl := hr.len
  have bt : bnot true = false := by rw [e_bnot hA]; rfl
  refine countUp (fun i hi0 hin ih la h e hla => ?_)
  refine hA.roundR Try.func7 r7_ok ?_; (try (conv => cbv)); repeat (refine brk_ok hA ?_; (try (conv => cbv)))
  refine br (i < rn) (by rw [e_lss hA, e_ofNat hA]) (fun c1 => ?_) (fun c1 => ?_) <;> (try (conv => cbv)) <;> repeat (refine brk_ok hA ?_; (try (conv => cbv)))
  · obtain ⟨a, hR⟩ := hrm i hi0 (by omega)
    have hla' := hla a hR
    have ha0 := hR.a0
    have ha1 := hR.a1
    obtain ⟨b, o, s, hae, hbn, hs, hrd⟩ := (hr.ext e).at hi0 c1
    refine ⟨b, o, hae, in_ok hA hi0 c1, ?_⟩
    ((try (conv => cbv)); repeat (refine brk_ok hA ?_; (try (conv => cbv))))
    refine ⟨s, rd_ok hA hrd, ?_⟩
    ((try (conv => cbv)); repeat (refine brk_ok hA ?_; (try (conv => cbv))))
    refine idx_ok hA (e.lowOK hlow0) (hl.ext e) (by omega) (fun kk hkk => ⟨_, rfl, ?_⟩)
    obtain rfl : kk = a := by rw [hkk, hs]; exact hR.idx
    ((try (conv => cbv)); repeat (refine brk_ok hA ?_; (try (conv => cbv))))
    refine br (kk ≤ la) (by rw [e_leq hA]) (fun c2 => ?_) (fun c2 => ?_) <;> (try (conv => cbv)) <;> repeat (refine brk_ok hA ?_; (try (conv => cbv)))
    · omega
    refine ⟨b, o, hae, in_ok hA hi0 c1, ?_⟩
    ((try (conv => cbv)); repeat (refine brk_ok hA ?_; (try (conv => cbv))))
    refine ⟨s, rd_ok hA hrd, ?_⟩
    ((try (conv => cbv)); repeat (refine brk_ok hA ?_; (try (conv => cbv))))
    refine has_ok hA (e.lowOK hlow0) (hh.ext e) (by omega) (fun g hg => ⟨_, rfl, ?_⟩)
    obtain rfl : g = false := by
      cases g with
      | false => rfl
      | true => exact absurd (hg.1 rfl) (by rw [hs]; exact hR.nothad)
    ((try (conv => cbv)); repeat (refine brk_ok hA ?_; (try (conv => cbv))))
    obtain ⟨b2, o2, x, hae2, hbn2, rel, _, _, r1, _, _⟩ := (hl.ext e).at ha0 (by omega)
    obtain ⟨xnm, xhow, xfa, xfn, xfc, xarg, xda, xdn, xdc, xdg⟩ := x
    have hhw : xhow = (rat l kk).how := rel.how
    simp only [] at r1
    refine ⟨b2, o2, hae2, in_ok hA ha0 (by omega), ?_⟩
    ((try (conv => cbv)); repeat (refine brk_ok hA ?_; (try (conv => cbv))))
    refine ⟨xhow, rd_fld hA r1, ?_⟩
    ((try (conv => cbv)); repeat (refine brk_ok hA ?_; (try (conv => cbv))))
    refine br (xhow = 1) (by rw [e_eql hA]) (fun c3 => absurd (by rw [← hhw]; exact c3) hR.how) (fun c3 => ?_) <;> (try (conv => cbv)) <;> repeat (refine brk_ok hA ?_; (try (conv => cbv)))
    refine frm_loop hA hlow0 hl hnl hh hhn hr hrn hi0 c1 ha0 (by omega) (hsm kk ha0 ha1).2.1 hR.frm (fun h2 e2 => ?_) 0 (by omega) (by omega) h e
    ((try (conv => cbv)); repeat (refine brk_ok hA ?_; (try (conv => cbv))))
    obtain ⟨b3, o3, s3, hae3, hbn3, hs3, hrd3⟩ := (hr.ext e2).at hi0 c1
    refine ⟨b3, o3, hae3, in_ok hA hi0 c1, ?_⟩
    ((try (conv => cbv)); repeat (refine brk_ok hA ?_; (try (conv => cbv))))
    refine ⟨s3, rd_ok hA hrd3, ?_⟩
    ((try (conv => cbv)); repeat (refine brk_ok hA ?_; (try (conv => cbv))))
    have hus : scmp .eql s3 name = decide (s3 = name) := e_str hA _ _
    obtain ⟨u0, hu0⟩ : ∃ v, v = decide (s3 = name) := ⟨_, rfl⟩
    rw [hus, ← hu0, add64 hA (by omega) (by omega)]
    refine used_loop hA hlow0 hl hnl hr hrn hsm hi0 c1 (fun u h3 e3 hu => ?_) (i + 1) (by omega) (by omega) (by omega) u0 h2 e2 (fun q => ?_)
    · obtain rfl := hu hR.used
      ((try (conv => cbv)); repeat (refine brk_ok hA ?_; (try (conv => cbv))))
      rw [bt]
      ((try (conv => cbv)); repeat (refine brk_ok hA ?_; (try (conv => cbv))))
      rw [add64 hA (by omega) (by omega)]
      refine ih c1 kk h3 e3 (fun a' hR' => ?_)
      have := hR'.low (sat' r i) (by
        rw [← sat'_take hi0 (show i < i + 1 by omega)]
        exact sat'_mem hi0 (by rw [List.length_take]; omega))
      rw [hR.idx] at this
      exact this
    · rcases q with q | ⟨j, j0, j1, _⟩
      · rw [hu0, hs3]; exact decide_eq_true q
      · omega
  · exact h1 h e

theorem alive_ok {h : AHeap} {Q : Value → AHeap → Prop} (hQ : Q (.bool true) h) : call 30 [] h Q := hA.prim (v := .bool true) (h' := h) rfl hQ

theorem remadeLaw_ok {h : AHeap} (hlow : h.low ≤ h.next) {al : Option Addr} {nl cl : Nat} {l : List Rec} (hl : Recs h al nl l) (hcap : nl ≤ capLow cl) (hnl : (nl : Int) ≤ 9223372036854775807) (hr : ∀ y ∈ l, okR y) {ha : Option Addr} {hn hc : Nat} {hv : List Str} (hh : Strs h ha hn hc hv) (hhn : (hn : Int) ≤ 9223372036854775807) {name : Str} {Q : Value → AHeap → Prop}
    (hQ : ∀ h', Ext h h' → Q (.bool true) h') : call 7 [.slice al nl cl, .slice ha hn hc, .string name] h Q := by
  have hll := hl.len
  have hhl := hh.len
  have bt : bnot true = false := by rw [e_bnot hA]; rfl
  refine hA.bodyR Try.func7 r7_ok (show prims _ _ _ = none from rfl) hlow ?_; (try (conv => cbv)); repeat (refine brk_ok hA ?_; (try (conv => cbv)))
  refine alive_ok hA ⟨_, rfl, ?_⟩
  ((try (conv => cbv)); repeat (refine brk_ok hA ?_; (try (conv => cbv))))
  refine great_ok hA hlow hl hnl (fun g hg => ⟨_, rfl, ?_⟩)
  cases g with
  | true =>
    ((try (conv => cbv)); repeat (refine brk_ok hA ?_; (try (conv => cbv))))
    exact hQ h (.refl h)
  | false =>
  have hsm := hg rfl
  have hok := hsm.ok' hr
  have h50 : nl ≤ 50 := by have := hsm.2; omega
  ((try (conv => cbv)); repeat (refine brk_ok hA ?_; (try (conv => cbv))))
  refine rcheck_ok hA hlow hl hcap (fun _ => hok) (fun e o h1 x1 hall => ⟨_, rfl, ?_⟩)
  ((try (conv => cbv)); repeat (refine brk_ok hA ?_; (try (conv => cbv))))
  refine br (e ≠ 0) (by rw [e_neq hA]) (fun c1 => ?_) (fun c1 => ?_) <;> (try (conv => cbv)) <;> repeat (refine brk_ok hA ?_; (try (conv => cbv)))
  · exact hQ h1 x1
  have he0 : e = 0 := by omega
  subst he0
  obtain ⟨ps, rfl⟩ : ∃ ps, o = some ps := by
    cases o with
    | none => exact absurd rfl (hall.zero.1 rfl)
    | some ps => exact ⟨ps, rfl⟩
  obtain ⟨pv, hform, h40⟩ := hall.prov
  refine long_ok hA (x1.lowOK hlow) (hh.ext x1) hhn (fun g hg => ⟨_, rfl, ?_⟩)
  cases g with
  | true =>
    ((try (conv => cbv)); repeat (refine brk_ok hA ?_; (try (conv => cbv))))
    exact hQ h1 x1
  | false =>
  obtain ⟨hv20, _⟩ := hg rfl
  ((try (conv => cbv)); repeat (refine brk_ok hA ?_; (try (conv => cbv))))
  refine br (100 < (name.size : Int)) (by rw [e_gtr hA, e_slen hA]) (fun c2 => ?_) (fun c2 => ?_) <;> (try (conv => cbv)) <;> repeat (refine brk_ok hA ?_; (try (conv => cbv)))
  · exact hQ h1 x1
  rw [bt]
  ((try (conv => cbv)); repeat (refine brk_ok hA ?_; (try (conv => cbv))))
  refine remake_ok hA (x1.lowOK hlow) (hl.ext x1) (fun _ => hok) (hh.ext x1) (by omega) (fun a3 n3 k3 e3 r3 h3 x3 s3 i3 b3 => ⟨_, _, _, _, rfl, ?_⟩)
  have x13 := x1.trans x3
  have hl3 := s3.len
  ((try (conv => cbv)); repeat (refine brk_ok hA ?_; (try (conv => cbv))))
  rcases i3 with ⟨w, _⟩ | ⟨_, _, _, rfl, rfl⟩ | ⟨_, _, hi, hknown, ⟨_, rfl, rfl⟩ | ⟨hlost, rfl, hr3⟩⟩
  · cases (w.uniq hall).2
  · refine br True (by rw [e_neq hA]; rfl) (fun _ => ?_) (fun q => absurd trivial q) <;> (try (conv => cbv)) <;> repeat (refine brk_ok hA ?_; (try (conv => cbv)))
    obtain rfl : n3 = 0 := by simp at hl3; omega
    refine br True (by rw [e_eql hA, e_ofNat hA]; rfl) (fun _ => ?_) (fun q => absurd trivial q) <;> (try (conv => cbv)) <;> repeat (refine brk_ok hA ?_; (try (conv => cbv)))
    refine br True (by rw [e_eql hA]; rfl) (fun _ => ?_) (fun q => absurd trivial q) <;> (try (conv => cbv)) <;> repeat (refine brk_ok hA ?_; (try (conv => cbv)))
    exact hQ h3 x13
  · refine br True (by rw [e_neq hA]; rfl) (fun _ => ?_) (fun q => absurd trivial q) <;> (try (conv => cbv)) <;> repeat (refine brk_ok hA ?_; (try (conv => cbv)))
    obtain rfl : n3 = 0 := by simp at hl3; omega
    refine br True (by rw [e_eql hA, e_ofNat hA]; rfl) (fun _ => ?_) (fun q => absurd trivial q) <;> (try (conv => cbv)) <;> repeat (refine brk_ok hA ?_; (try (conv => cbv)))
    refine br False (by rw [e_eql hA]; rfl) (fun q => q.elim) (fun _ => ?_) <;> (try (conv => cbv)) <;> repeat (refine brk_ok hA ?_; (try (conv => cbv)))
    have hc : cmp .eql 32 32 = true := by rw [e_eql hA]; rfl
    rw [hc]
    exact hQ h3 x13
  · refine br False (by rw [e_neq hA]; rfl) (fun q => q.elim) (fun _ => ?_) <;> (try (conv => cbv)) <;> repeat (refine brk_ok hA ?_; (try (conv => cbv)))
    refine has_ok hA (x13.lowOK hlow) (hh.ext x13) (by omega) (fun g hg => ⟨_, rfl, ?_⟩)
    cases g with
    | true =>
      ((try (conv => cbv)); repeat (refine brk_ok hA ?_; (try (conv => cbv))))
      have : r3 = [] := by rw [hr3]; exact rm_had pv hi (hg.1 rfl)
      subst this
      obtain rfl : n3 = 0 := by simp at hl3; omega
      have hc : cmp .eql (ofNat 0) 0 = true := by rw [e_eql hA, e_ofNat hA]; rfl
      rw [hc]
      exact hQ h3 x13
    | false =>
    have hnin : name ∉ hv := fun q => by have := hg.2 q; cases this
    ((try (conv => cbv)); repeat (refine brk_ok hA ?_; (try (conv => cbv))))
    refine has_ok hA (x13.lowOK hlow) s3 (by omega) (fun g2 hg2 => ⟨_, rfl, ?_⟩)
    obtain rfl : g2 = true := hg2.2 (by rw [hr3]; exact rm_name pv hi hnin)
    ((try (conv => cbv)); repeat (refine brk_ok hA ?_; (try (conv => cbv))))
    rw [bt]
    ((try (conv => cbv)); repeat (refine brk_ok hA ?_; (try (conv => cbv))))
    refine remade_loop hA (x13.lowOK hlow) (hl.ext x13) (by omega) (hh.ext x13) (by omega) s3 (by omega) hsm.1 (fun i i0 i1 => rm_at pv hi hlost hr3 i0 i1) (fun h4 x4 => ?_) 0 (by omega) (by omega) (-1) h3 (.refl _) (fun a hR => by have := hR.a0; omega)
    ((try (conv => cbv)); repeat (refine brk_ok hA ?_; (try (conv => cbv))))
    exact hQ h4 (x13.trans x4)

end Go.Proofs.Ytopppccddnplkaa
