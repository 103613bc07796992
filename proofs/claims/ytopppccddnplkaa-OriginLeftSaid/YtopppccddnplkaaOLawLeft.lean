/-
  OriginLeft: the walk.
-/
import Derived.Test.YtopppccddnplkaaOPlain
import Derived.Test.YtopppccddnplkaaOLawBase
import Derived.Test.YtopppccddnplkaaONew
import Derived.Test.YtopppccddnplkaaOVerify
import Derived.Test.YtopppccddnplkaaORRemake
import Derived.Test.YtopppccddnplkaaSeatL8
namespace Go.Proofs.Ytopppccddnplkaa
open Go.Sim
open Classical
set_option linter.unusedVariables false
set_option maxRecDepth 100000

theorem _root_.Go.Sim.Cells.mid {h : AHeap} {a : Option Addr} {n es : Nat} {cells : List Value} (c : Cells h a n es cells) {i j : Nat} (hij : i ≤ j) (hj : j ≤ n) : Cells h (a.map (aadd · (i * es))) (j - i) es ((cells.drop (i * es)).take ((j - i) * es)) := by
  cases a with
  | none =>
    obtain ⟨rfl, rfl⟩ := c
    exact ⟨by omega, by simp⟩
  | some ad =>
    obtain ⟨b, o, sp⟩ := ad
    obtain ⟨h1, h2, h3⟩ := c
    simp only [] at h1
    subst h1
    refine ⟨rfl, h2, ?_⟩
    unfold AHeap.readG at h3 ⊢
    simp only [aadd] at h3 ⊢
    cases hc : h.cells? b with
    | none => rw [hc] at h3; cases h3
    | some cs =>
      rw [hc] at h3
      simp only [] at h3 ⊢
      obtain ⟨e1, e2⟩ := readN_eq h3
      have hm : i * es + (j - i) * es ≤ n * es := by rw [← Nat.add_mul]; exact Nat.mul_le_mul_right _ (by omega)
      refine readN_some ?_ ?_
      · rw [← e1, List.drop_take, List.take_take, List.drop_drop, Nat.min_eq_left (by omega)]
      · simp only [List.length_take, List.length_drop]; omega
theorem flatR_drop (xs : List RH) (i : Nat) : (flatR xs).drop (i * 6) = flatR (xs.drop i) := by
  have e : flatR xs = flatR (xs.take i) ++ flatR (xs.drop i) := by rw [← flatR_app, List.take_append_drop]
  by_cases hi : i ≤ xs.length
  · rw [e, List.drop_left' (by rw [flatR_len]; simp; omega)]
  · rw [List.drop_eq_nil_of_le (by rw [flatR_len]; omega), List.drop_eq_nil_of_le (by omega)]
    rfl
theorem flatR_take (xs : List RH) (i : Nat) (hi : i ≤ xs.length) : (flatR xs).take (i * 6) = flatR (xs.take i) := by
  have e : flatR xs = flatR (xs.take i) ++ flatR (xs.drop i) := by rw [← flatR_app, List.take_append_drop]
  rw [e, List.take_left' (by rw [flatR_len]; simp; omega)]

theorem leave_mem {α : Type} {l : List α} {n : Nat} {x : α} (h : x ∈ leave l n) : x ∈ l := by
  unfold leave at h
  rcases List.mem_append.1 h with q | q
  · exact List.mem_of_mem_take q
  · exact List.mem_of_mem_drop q

variable {call : FuncId → List Value → AHeap → (Value → AHeap → Prop) → Prop}
  {head : FuncId → Nat → Nat → SS → (Exit → SS → Prop) → Prop}
  {arith : BinOp → IntKind → Int → Int → Int}
  {cmp : BinOp → Int → Int → Bool}
  {scmp : BinOp → ByteArray → ByteArray → Bool}
  {bnot : Bool → Bool}
  {bsame : Bool → Bool → Bool}
  {conv : IntKind → Int → Int}
  {neg : IntKind → Int → Int}
  {imax : Int → Int → Int}
  {imin : Int → Int → Int}
  {ofNat : Nat → Int}
  {slen : ByteArray → Int}
  {place : Nat → Int → Nat → Nat}
  {inR : Int → Nat → Prop}
  {nz : Int → Prop}
  {geZ : Int → Prop}
  {rd : AHeap → Nat → Nat → Nat → List Value → Prop}
  {wr : AHeap → Nat → Nat → List Value → AHeap → Prop}
  {push : AHeap → Nat → List Value → AHeap}
  {next : AHeap → Nat}
  {mkOK : Int → Int → Prop}
  {nat : Int → Nat}
  {zeros : List Value → Int → List Value}
  {sadd : ByteArray → ByteArray → (ByteArray → Prop) → Prop}
  {eqAgg : TypeId → Array Value → Array Value → (Bool → Prop) → Prop}
  {cut : Nat → Int → Prop}
  {slc : TypeId → Value → Option Value → Option Value → Option Value → (Option Addr → Nat → Nat → Prop) → Prop}
  {sslc : TypeId → ByteArray → Option Value → Option Value → (ByteArray → Prop) → Prop}
  {strAt : ByteArray → Int → (Int → Prop) → Prop}
  {part : TypeId → Array Value → Nat → Value → Prop}
  {app : List TypeId → List Value → AHeap → (Option Addr → Nat → Nat → AHeap → Prop) → Prop}
  {cpy : List TypeId → List Value → AHeap → (Int → AHeap → Prop) → Prop}
  {putAt : AHeap → Nat → Nat → List Value → AHeap}
  {fresh : AHeap → AHeap}
  {lowered : AHeap → AHeap → AHeap}
  {bump : AHeap → Nat → AHeap}
  {wrote : AHeap → AHeap → Bool}
  {addN : Nat → Nat → Nat}
  {lt : Nat → Nat → Prop}
  {ne : Nat → Nat → Prop}
  {fpAll : Bool → Bool → Bool → Nat → Nat → Prop}
  {brk : (Unit → Prop) → Prop}
  {yn : Nat → Nat}
  {rng : FuncId → Nat → SS → (Exit → SS → Prop) → Prop}
  {mget : TypeId → Value → Value → AHeap → Value → Bool → Prop}
  {mput : TypeId → Value → Value → Value → AHeap → AHeap → Prop}
  {mnew : AHeap → AHeap}
  {bytes : TypeId → TypeId → Option Addr → Nat → AHeap → ByteArray → Prop}
  {clr : List TypeId → List Value → AHeap → AHeap → Prop}
  (hA : AOK progU hint prims ⟨call, head, arith, cmp, scmp, bnot, bsame, conv, neg, imax, imin, ofNat, slen, place, inR, nz, geZ, rd, wr, push, next, mkOK, nat, zeros, sadd, eqAgg, cut, slc, sslc, strAt, part, app, cpy, putAt, fresh, lowered, bump, wrote, addN, lt, ne, fpAll, brk, yn, rng, mget, mput, mnew, bytes, clr⟩)
include hA

theorem slc_from {t : TypeId} {e es : Nat} (hT : SliceT Try.prog t e es) {a : Option Addr} {n c : Nat} (hc : c < slack) (hn : n ≤ c) {k : IntKind} {i : Int} (i0 : 0 ≤ i) (i1 : i ≤ n) {C : Option Addr → Nat → Nat → Prop}
    (h : C (bif Nat.beq c i.toNat then a else a.map (aadd · (i.toNat * es))) (n - i.toNat) (c - i.toNat)) : slc t (.slice a n c) (some (.int k i)) none none C := by
  have e_slc : slc t (.slice a n c) (some (.int k i)) none none C = ∃ a' n' c', sliceA Try.prog t (.slice a n c) (some (.int k i)) none none = some (.slice a' n' c') ∧ C a' n' c' := by have := hA.eq; injections; subst_vars; rfl
  rw [e_slc]
  refine ⟨_, _, _, ?_, h⟩
  unfold sliceA
  simp only [hT.und, hT.size]
  unfold sliceS
  simp only [boundMx, boundHi, boundLo, bound]
  rw [if_pos ⟨i0, i1⟩]
  simp only []
  rw [capLow_lt hc, ble_true hn, blt_true hc]
  rfl

theorem leftHas_loop {h0 : AHeap} (hlow0 : h0.low ≤ h0.next) {al : Option Addr} {nl cl : Nat} {l : List Rec} (hl : Recs h0 al nl l) (hnl : (nl : Int) ≤ 40) (hsz : ∀ i : Int, 0 ≤ i → i < l.length → (rat l i).frm.length ≤ 1000) {at_ : Int} (ha0 : 0 ≤ at_) (ha1 : at_ < nl) {Q : Exit → SS → Prop}
    (h1 : ∀ h', Ext h0 h' → (∀ i : Int, at_ < i → i < l.length → (rat l at_).name ∉ (rat l i).frm) → Q (.exit 0) ⟨[(0, .slice al nl cl), (1, .int .i64 at_), (5, .bool true)], 0, [], h'⟩) (h2 : ∀ h' e kn K, Ext h0 h' → Q .ret ⟨(4, .bool true) :: e, kn, K, h'⟩) :
    ∀ i : Int, 0 ≤ i → i ≤ nl → at_ < i → ∀ h, Ext h0 h → (∀ j : Int, at_ < j → j < i → (rat l at_).name ∉ (rat l j).frm) → head 8 7 0 ⟨[(0, .slice al nl cl), (1, .int .i64 at_), (5, .bool true), (6, .int .i64 i)], 0, [], h⟩ Q := by
  have hll := hl.len
  refine countUp (fun i hi0 hin ih hia h e hall => ?_)
  refine hA.roundR Try.func8 r8_ok ?_; (try (conv => cbv)); repeat (refine brk_ok hA ?_; (try (conv => cbv)))
  refine br (i < nl) (by rw [e_lss hA, e_ofNat hA]) (fun c1 => ?_) (fun c1 => ?_) <;> (try (conv => cbv)) <;> repeat (refine brk_ok hA ?_; (try (conv => cbv)))
  · obtain ⟨h9, hh9⟩ : ∃ z, z = bump h 11 := ⟨_, rfl⟩
    have e9 : Ext h h9 := by rw [hh9, e_bump hA]; exact .bump _ _
    rw [← hh9]
    have e09 := e.trans e9
    obtain ⟨b, o, x, hae, hbn, rel, _, _, _, r2, _⟩ := (hl.ext e09).at hi0 c1
    obtain ⟨b', o', y, hae', hbn', rel', _, s0, _⟩ := (hl.ext e09).at ha0 ha1
    have hF := rel.frm
    have hN := rel'.name
    have hz := hsz i hi0 (by omega)
    obtain ⟨xnm, xhow, xfa, xfn, xfc, xarg, xda, xdn, xdc, xdg⟩ := x
    obtain ⟨ynm, yhow, yfa, yfn, yfc, yarg, yda, ydn, ydc, ydg⟩ := y
    simp only [] at hF hN r2 s0
    have hFl := hF.len
    refine ⟨b, o, hae, in_ok hA hi0 c1, ?_⟩
    ((try (conv => cbv)); repeat (refine brk_ok hA ?_; (try (conv => cbv))))
    refine ⟨xfa, xfn, xfc, rd_fld hA r2, ?_⟩
    ((try (conv => cbv)); repeat (refine brk_ok hA ?_; (try (conv => cbv))))
    refine ⟨b', o', hae', in_ok hA ha0 ha1, ?_⟩
    ((try (conv => cbv)); repeat (refine brk_ok hA ?_; (try (conv => cbv))))
    refine ⟨ynm, rd_fld hA s0, ?_⟩
    ((try (conv => cbv)); repeat (refine brk_ok hA ?_; (try (conv => cbv))))
    refine has_ok hA (low_fresh hA h9) (hF.ext (ext_fresh hA h9)) (by omega) (fun bb hbb => ⟨_, rfl, ?_⟩)
    ((try (conv => cbv)); repeat (refine brk_ok hA ?_; (try (conv => cbv))))
    obtain ⟨hX, hhX⟩ : ∃ v, v = lowered h9 (fresh h9) := ⟨_, rfl⟩
    have eX : Ext h0 hX := by rw [hhX]; exact ext_low hA hlow0 e09 (.refl _)
    rw [← hhX]
    ((try (conv => cbv)); repeat (refine brk_ok hA ?_; (try (conv => cbv))))
    cases bb with
    | true =>
      ((try (conv => cbv)); repeat (refine brk_ok hA ?_; (try (conv => cbv))))
      exact h2 hX _ _ _ eX
    | false =>
      ((try (conv => cbv)); repeat (refine brk_ok hA ?_; (try (conv => cbv))))
      rw [add64 hA (by omega) (by omega)]
      refine ih c1 (by omega) hX eX (fun j j0 j1 => ?_)
      by_cases ej : j = i
      · rw [ej, ← hN]
        intro q
        have := hbb.2 q
        cases this
      · exact hall j j0 (by omega)
  · exact h1 h e (fun j j0 j1 => hall j j0 (by omega))

theorem leftMake_loop {h0 : AHeap} (hlow0 : h0.low ≤ h0.next) {al : Option Addr} {nl cl : Nat} {l : List Rec} (hl : Recs h0 al nl l) (hnl : (nl : Int) ≤ 40) {ra : Option Addr} {rn rc : Nat} {i0 : Nat} (hr : Recs h0 ra rn (leave l i0)) (hok : okL l) {ps : List Bytes} (hall : AllIs l 0 (some ps)) (hi0 : i0 < l.length) (hall' : AllIs (leave l i0) 0 (some (leave ps i0))) {KN : Nat} {at_ : Int} {Q : Exit → SS → Prop}
    (h1 : ∀ h', Ext h0 h' → Q (.exit 2) ⟨[(0, .slice al nl cl), (1, .int .i64 at_), (5, .bool true), (7, .slice ra rn rc)], KN, [], h'⟩) :
    ∀ i : Int, 0 ≤ i → i ≤ rn → ∀ h, Ext h0 h → head 8 13 KN ⟨[(0, .slice al nl cl), (1, .int .i64 at_), (5, .bool true), (7, .slice ra rn rc), (8, .int .i64 i)], KN, [], h⟩ Q := by
  have hll := hl.len
  have hrl := hr.len
  have hlv := leave_len (l := l) hi0
  have hps := hall.allP.lens
  have hoks := hall.oks hok
  refine countUp (fun i j0 hin ih h e => ?_)
  refine hA.roundR Try.func8 r8_ok ?_; (try (conv => cbv)); repeat (refine brk_ok hA ?_; (try (conv => cbv)))
  refine br (i < rn) (by rw [e_lss hA, e_ofNat hA]) (fun c1 => ?_) (fun c1 => ?_) <;> (try (conv => cbv)) <;> repeat (refine brk_ok hA ?_; (try (conv => cbv)))
  · obtain ⟨b, o, x, hae, hbn, rel, _, r0, _⟩ := (hr.ext e).at j0 c1
    have hN := rel.name
    obtain ⟨xnm, xhow, xfa, xfn, xfc, xarg, xda, xdn, xdc, xdg⟩ := x
    simp only [] at hN r0
    refine ⟨b, o, hae, in_ok hA j0 c1, ?_⟩
    ((try (conv => cbv)); repeat (refine brk_ok hA ?_; (try (conv => cbv))))
    refine ⟨xnm, rd_fld hA r0, ?_⟩
    ((try (conv => cbv)); repeat (refine brk_ok hA ?_; (try (conv => cbv))))
    have w1 := hall'.allP.prov.self i j0 (by omega)
    have up0 : 0 ≤ upTo i0 i := by unfold upTo; split <;> omega
    have up1 : upTo i0 i < l.length := by unfold upTo; split <;> omega
    have w2 := hall.allP.prov.self (upTo i0 i) up0 up1
    rw [← leave_rat hi0 j0, ← hN] at w2
    rw [← hN] at w1
    refine make_ok hA (e.lowOK hlow0) (hl.ext e) (fun _ => hok) (fun a1 n1 k1 e1 r1 h2 x2 bm1 mk1 => ⟨_, _, _, _, rfl, ?_⟩)
    ((try (conv => cbv)); repeat (refine brk_ok hA ?_; (try (conv => cbv))))
    have e2 := e.trans x2
    refine ⟨b, o, hae, in_ok hA j0 c1, ?_⟩
    ((try (conv => cbv)); repeat (refine brk_ok hA ?_; (try (conv => cbv))))
    refine ⟨xnm, rd_fld hA (x2.rd hbn r0), ?_⟩
    ((try (conv => cbv)); repeat (refine brk_ok hA ?_; (try (conv => cbv))))
    refine make_ok hA (e2.lowOK hlow0) (hr.ext e2) (fun _ r hm => hok r (leave_mem hm)) (fun a3 n3 k3 e3 r3 h4 x4 bm3 mk3 => ⟨_, _, _, _, rfl, ?_⟩)
    ((try (conv => cbv)); repeat (refine brk_ok hA ?_; (try (conv => cbv))))
    have e4 := e2.trans x4
    obtain ⟨rfl, rfl⟩ := make_at hall w2 up0 mk1
    obtain ⟨rfl, rfl⟩ := make_at hall' w1 j0 mk3
    have hb := leave_bat (l := ps) (n := i0) (by omega) j0
    rw [hb] at bm3
    obtain ⟨hb1, _⟩ := hoks (upTo i0 i)
    generalize bat ps (upTo i0 i) = bs at *
    refine br (False) (by rw [e_neq hA]; rfl) (fun q => q.elim) (fun _ => ?_) <;> (try (conv => cbv)) <;> repeat (refine brk_ok hA ?_; (try (conv => cbv)))
    refine br (False) (by rw [e_neq hA]; rfl) (fun q => q.elim) (fun _ => ?_) <;> (try (conv => cbv)) <;> repeat (refine brk_ok hA ?_; (try (conv => cbv)))
    obtain ⟨u, hu⟩ : ∃ z, z = str bs := ⟨_, rfl⟩
    refine ⟨u, by rw [hu]; exact bytes_is hA (bm1.byts.ext x4), ?_⟩
    ((try (conv => cbv)); repeat (refine brk_ok hA ?_; (try (conv => cbv))))
    refine ⟨u, by rw [hu]; exact bytes_is hA bm3.byts, ?_⟩
    ((try (conv => cbv)); repeat (refine brk_ok hA ?_; (try (conv => cbv))))
    refine br (False) (by rw [e_strn hA]; simp) (fun q => q.elim) (fun _ => ?_) <;> (try (conv => cbv)) <;> repeat (refine brk_ok hA ?_; (try (conv => cbv)))
    rw [add64 hA (by omega) (by omega)]
    exact ih c1 h4 e4
  · exact h1 h e

theorem leftLaw_ok {h : AHeap} (hlow : h.low ≤ h.next) {al : Option Addr} {nl cl : Nat} {l : List Rec} (hl : Recs h al nl l) (hcap : nl ≤ capLow cl) (hcl : cl < slack) (hnl : (nl : Int) ≤ 9223372036854775807) (hr : ∀ y ∈ l, okR y) {at_ : Int} (h64 : -9223372036854775808 ≤ at_ ∧ at_ < 9223372036854775808) {Q : Value → AHeap → Prop}
    (hQ : ∀ h', Ext h h' → Q (.bool true) h') : call 8 [.slice al nl cl, .int .i64 at_] h Q := by
  have hll := hl.len
  have bt : bnot true = false := by rw [e_bnot hA]; rfl
  refine hA.bodyR Try.func8 r8_ok (show prims _ _ _ = none from rfl) hlow ?_; (try (conv => cbv)); repeat (refine brk_ok hA ?_; (try (conv => cbv)))
  refine alive_ok hA ⟨_, rfl, ?_⟩
  ((try (conv => cbv)); repeat (refine brk_ok hA ?_; (try (conv => cbv))))
  refine great_ok hA hlow hl hnl (fun g hg => ⟨_, rfl, ?_⟩)
  cases g with
  | true =>
    ((try (conv => cbv)); repeat (refine brk_ok hA ?_; (try (conv => cbv))))
    exact hQ h (.refl h)
  | false =>
  have hsm := hg rfl
  have hok := hsm.ok' hr
  have h50 : nl ≤ 50 := by have := hsm.2; omega
  ((try (conv => cbv)); repeat (refine brk_ok hA ?_; (try (conv => cbv))))
  refine rcheck_ok hA hlow hl hcap (fun _ => hok) (fun e o h1 x1 hall => ⟨_, rfl, ?_⟩)
  ((try (conv => cbv)); repeat (refine brk_ok hA ?_; (try (conv => cbv))))
  refine br (e ≠ 0) (by rw [e_neq hA]) (fun c1 => ?_) (fun c1 => ?_) <;> (try (conv => cbv)) <;> repeat (refine brk_ok hA ?_; (try (conv => cbv)))
  · exact hQ h1 x1
  have he0 : e = 0 := by omega
  subst he0
  obtain ⟨ps, rfl⟩ : ∃ ps, o = some ps := by
    cases o with
    | none => exact absurd rfl (hall.zero.1 rfl)
    | some ps => exact ⟨ps, rfl⟩
  obtain ⟨pv, hform, h40⟩ := hall.prov
  refine br (at_ < 0) (by rw [e_lss hA]) (fun c2 => ?_) (fun c2 => ?_) <;> (try (conv => cbv)) <;> repeat (refine brk_ok hA ?_; (try (conv => cbv)))
  · exact hQ h1 x1
  refine br ((nl : Int) ≤ at_) (by rw [e_geq hA, e_ofNat hA]) (fun c3 => ?_) (fun c3 => ?_) <;> (try (conv => cbv)) <;> repeat (refine brk_ok hA ?_; (try (conv => cbv)))
  · exact hQ h1 x1
  rw [bt]
  ((try (conv => cbv)); repeat (refine brk_ok hA ?_; (try (conv => cbv))))
  refine ⟨by rw [e_cut hA]; omega, ?_⟩
  ((try (conv => cbv)); repeat (refine brk_ok hA ?_; (try (conv => cbv))))
  rw [e_nat hA]
  have x1l := hl.ext x1
  refine check_ok hA (x1.lowOK hlow) (x1l.take (j := at_.toNat) (by omega)) (fun _ r hm => hok r (List.mem_of_mem_take hm)) (fun e o h2 x2 ha2 => ⟨_, rfl, ?_⟩)
  ((try (conv => cbv)); repeat (refine brk_ok hA ?_; (try (conv => cbv))))
  obtain ⟨rfl, _⟩ := ha2.uniq (hall.allP.take at_.toNat).allIs
  refine br (False) (by rw [e_neq hA]; rfl) (fun q => q.elim) (fun _ => ?_) <;> (try (conv => cbv)) <;> repeat (refine brk_ok hA ?_; (try (conv => cbv)))
  have x12 := x1.trans x2
  rw [add64 hA (by omega) (by omega)]
  refine leftHas_loop hA (x12.lowOK hlow) (hl.ext x12) (by omega) (fun i i0 i1 => by have := hsm.1 i i0 i1; unfold smallR at this; omega) (by omega) (by omega) (fun h3 x3 hno => ?_) (fun h3 e kn K x3 => ?_) (at_ + 1) (by omega) (by omega) (by omega) h2 (.refl _) (fun j j0 j1 => by omega)
  rotate_left
  · ((try (conv => cbv)); repeat (refine brk_ok hA ?_; (try (conv => cbv))))
    exact hQ h3 (x12.trans x3)
  ((try (conv => cbv)); repeat (refine brk_ok hA ?_; (try (conv => cbv))))
  have x13 := x12.trans x3
  refine ⟨by rw [e_cut hA]; omega, ?_⟩
  ((try (conv => cbv)); repeat (refine brk_ok hA ?_; (try (conv => cbv))))
  rw [capLow_lt hcl] at hcap
  rw [add64 hA (by omega) (by omega), e_addN hA, e_next hA, e_bump hA, e_putAt hA, e_nat hA, Nat.add_zero]
  obtain ⟨i0, hi0⟩ : ∃ z : Nat, z = at_.toNat := ⟨_, rfl⟩
  have hi1 : (at_ + 1).toNat = i0 + 1 := by omega
  rw [← hi0]
  refine slc_from hA T22 hcl hcap (by omega) (by omega) ?_
  rw [hi1]
  obtain ⟨h4, hh4⟩ : ∃ z, z = (h3.bump 11).putAt h3.next 6 [] := ⟨_, rfl⟩
  have e4 : Ext h3 h4 := by rw [hh4]; exact (Ext.bump _ _).put (Nat.le_refl _) _ _
  have o4 : Own h4 h3.next 6 [] := by rw [hh4]; exact Own.putAt _ _ _ _
  rw [← hh4]
  obtain ⟨ra, hra⟩ : ∃ z, z = (bif Nat.beq cl (i0 + 1) then al else al.map (aadd · ((i0 + 1) * 6))) := ⟨_, rfl⟩
  obtain ⟨n5, hn5⟩ : ∃ z, z = nl - (i0 + 1) := ⟨_, rfl⟩
  obtain ⟨c5, hc5⟩ : ∃ z, z = cl - (i0 + 1) := ⟨_, rfl⟩
  obtain ⟨at1, hat1⟩ : ∃ z, z = at_ + 1 := ⟨_, rfl⟩
  obtain ⟨b4, hb4⟩ : ∃ z, z = h3.next := ⟨_, rfl⟩
  rw [← hra, ← hn5, ← hc5, ← hat1, ← hb4]
  rw [← hb4] at o4
  have n4 : h4.next = h3.next + 11 := by rw [hh4]; rfl
  have e14 := x13.trans e4
  have x13l := hl.ext x13
  have lln := x13l.len
  obtain ⟨xs, hcx, hxl, hrel⟩ := x13l.ex
  have g1 := hcx.mid (i := 0) (j := i0) (by omega) (by omega)
  have g2 := hcx.mid (i := i0 + 1) (j := nl) (by omega) (by omega)
  have ra2 : ra = al.map (aadd · ((i0 + 1) * 6)) ∨ (ra = al ∧ n5 = 0) := by
    by_cases q : cl = i0 + 1
    · right
      refine ⟨by rw [hra, q]; simp, by omega⟩
    · left
      have qf : Nat.beq cl (i0 + 1) = false := by rw [← Bool.not_eq_true, Nat.beq_eq]; exact q
      rw [hra, qf]
      rfl
  have g1' : Cells h3 al i0 6 (flatR (xs.take i0)) := by
    have : al.map (aadd · (0 * 6)) = al := by cases al <;> rfl
    rw [this, Nat.sub_zero, Nat.zero_mul, List.drop_zero, flatR_take _ _ (by omega)] at g1
    exact g1
  have g2' : Cells h3 ra n5 6 (flatR (xs.drop (i0 + 1))) := by
    rcases ra2 with q | ⟨q, q2⟩
    · rw [q, hn5]
      rw [flatR_drop, List.take_of_length_le (by rw [flatR_len]; simp; omega)] at g2
      exact g2
    · rw [q, q2, List.drop_eq_nil_of_le (by omega)]
      have g3 := hcx.mid (i := 0) (j := 0) (by omega) (by omega)
      have : al.map (aadd · (0 * 6)) = al := by cases al <;> rfl
      rw [this] at g3
      simpa [flatR] using g3
  ((try (conv => cbv)); repeat (refine brk_ok hA ?_; (try (conv => cbv))))
  have fX := ext_fresh hA h4
  obtain ⟨b6, c6, h6, q1, q2, q3⟩ := append_any T22 T22.und (h := fresh h4) (b := b4) (n := 0) (c := 0) ⟨o4.ext fX (by omega), by have := fX.next; omega, rfl, .inl ⟨rfl, rfl⟩⟩ (g1'.ext (e4.trans fX)) (c2 := cl) rfl (flatR_ok _) (by omega)
  rw [Nat.zero_add] at q1 q2
  rw [List.nil_append] at q2
  refine app_ok hA q1 ?_
  ((try (conv => cbv)); repeat (refine brk_ok hA ?_; (try (conv => cbv))))
  obtain ⟨h7, hh7⟩ : ∃ z, z = lowered h4 h6 := ⟨_, rfl⟩
  have lo3 := x13.lowOK hlow
  obtain ⟨e6, f6⟩ := q3 h3 (e4.trans fX) (by omega)
  have e7 : Ext h3 h7 := by rw [hh7, e_lowered hA]; exact Ext.lower' e6 e4 lo3
  have o7 : Own2 h7 6 b6 i0 c6 (flatR (xs.take i0)) := by
    obtain ⟨w1, w2, w3, w4⟩ := q2
    rw [hh7, e_lowered hA]
    exact ⟨w1.of_get rfl, w2, w3, w4⟩
  rw [← hh7]
  have fY := ext_fresh hA h7
  obtain ⟨b8, c8, h8, q4, q5, q6⟩ := append_any T22 T22.und (h := fresh h7) (b := b6) (n := i0) (c := c6) ⟨o7.1.ext fY o7.2.1, Nat.lt_of_lt_of_le o7.2.1 fY.next, o7.2.2.1, o7.2.2.2⟩ (g2'.ext (e7.trans fY)) (c2 := c5) (flatR_ok _) (flatR_ok _) (by omega)
  obtain ⟨n8, hn8⟩ : ∃ z, z = i0 + n5 := ⟨_, rfl⟩
  rw [← hn8] at q4 q5
  refine app_ok hA q4 ?_
  ((try (conv => cbv)); repeat (refine brk_ok hA ?_; (try (conv => cbv))))
  obtain ⟨h9, hh9⟩ : ∃ z, z = lowered h7 h8 := ⟨_, rfl⟩
  obtain ⟨e8, f8⟩ := q6 h3 (e7.trans fY) f6
  have e9 : Ext h3 h9 := by rw [hh9, e_lowered hA]; exact Ext.lower' e8 e7 lo3
  have hle : leave xs i0 = xs.take i0 ++ xs.drop (i0 + 1) := rfl
  have x19 := x13.trans e9
  have hxn : xs.length = nl := by omega
  have hrest : Recs h9 (some ⟨b8, 0, none⟩) n8 (leave l i0) := by
    obtain ⟨w1, w2, w3, w4⟩ := q5
    refine ⟨leave xs i0, ⟨rfl, by rw [hh9, e_lowered hA]; exact w2, ?_⟩, by rw [leave_len (by omega), leave_len (by omega)]; omega, fun i x r hx hr => ?_⟩
    · rw [hle, flatR_app]
      have w5 : Own h9 b8 6 (flatR (xs.take i0) ++ flatR (xs.drop (i0 + 1))) := by rw [hh9, e_lowered hA]; exact w1.of_get rfl
      rw [w5.readG (by omega), List.drop_zero, List.take_of_length_le (by omega)]
    · have u0 := leave_at (l := xs) (n := i0) (by omega) i (by omega)
      have u1 := leave_at (l := l) (n := i0) (by omega) i (by omega)
      rw [Int.toNat_natCast] at u0 u1
      rw [u0] at hx
      rw [u1] at hr
      exact (hrel _ x r hx hr).ext e9
  rw [← hh9]
  ((try (conv => cbv)); repeat (refine brk_ok hA ?_; (try (conv => cbv))))
  have hn8l := hrest.len
  have hllv := leave_len (l := l) (n := i0) (by omega)
  have hAP := hall.allP.leave (n := i0) (by omega) (fun i j0 j1 => by have := hno i (by omega) j1; rw [show ((i0 : Nat) : Int) = at_ by omega]; exact this)
  refine leftMake_loop hA (x19.lowOK hlow) (hl.ext x19) (by omega) hrest hok hall (by omega) hAP.allIs (fun h10 x10 => ?_) 0 (by omega) (by omega) h9 (.refl _)
  ((try (conv => cbv)); repeat (refine brk_ok hA ?_; (try (conv => cbv))))
  have x110 := x19.trans x10
  obtain ⟨b', o', y, hae', hbn', rel', _, s0, _⟩ := (hl.ext x110).at (i := at_) (by omega) (by omega)
  have hN := rel'.name
  obtain ⟨ynm, yhow, yfa, yfn, yfc, yarg, yda, ydn, ydc, ydg⟩ := y
  simp only [] at hN s0
  refine ⟨b', o', hae', in_ok hA (by omega) (by omega), ?_⟩
  ((try (conv => cbv)); repeat (refine brk_ok hA ?_; (try (conv => cbv))))
  refine ⟨ynm, rd_fld hA s0, ?_⟩
  ((try (conv => cbv)); repeat (refine brk_ok hA ?_; (try (conv => cbv))))
  refine make_ok hA (x110.lowOK hlow) (hrest.ext x10) (fun _ r hr => hok r (leave_mem hr)) (fun a n c e r h11 x11 bm mk => ⟨_, _, _, _, rfl, ?_⟩)
  have hnone := leave_none pv (n := i0) (by omega)
  rw [show ((i0 : Nat) : Int) = at_ by omega, ← hN] at hnone
  obtain ⟨rfl, rfl⟩ := make_no hAP.allIs hnone mk
  ((try (conv => cbv)); repeat (refine brk_ok hA ?_; (try (conv => cbv))))
  have hc6 : cmp .eql 6 6 = true := by rw [e_eql hA]; simp
  rw [hc6]
  exact hQ h11 (x110.trans x11)

end Go.Proofs.Ytopppccddnplkaa
