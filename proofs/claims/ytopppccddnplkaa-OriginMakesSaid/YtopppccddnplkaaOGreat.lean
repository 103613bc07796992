/-
  Great, long, has: what is not looked at.
-/
import Derived.Test.YtopppccddnplkaaOProd
namespace Go.Proofs.Ytopppccddnplkaa
open Go.Sim
set_option linter.unusedVariables false
set_option maxRecDepth 100000

def smallR (r : Rec) : Prop := r.name.size ≤ 100 ∧ r.frm.length ≤ 10 ∧ r.data.length ≤ 300 ∧ ∀ f ∈ r.frm, f.size ≤ 100
def Small (l : List Rec) : Prop := (∀ i : Int, 0 ≤ i → i < l.length → smallR (rat l i)) ∧ (l.length ≤ 20 ∨ (40 < l.length ∧ l.length ≤ 50))

variable {call : FuncId → List Value → AHeap → (Value → AHeap → Prop) → Prop}
  {head : FuncId → Nat → Nat → SS → (Exit → SS → Prop) → Prop}
  {arith : BinOp → IntKind → Int → Int → Int}
  {cmp : BinOp → Int → Int → Bool}
  {scmp : BinOp → ByteArray → ByteArray → Bool}
  {bnot : Bool → Bool}
  {bsame : Bool → Bool → Bool}
  {conv : IntKind → Int → Int}
  {neg : IntKind → Int → Int}
  {imax : Int → Int → Int}
  {imin : Int → Int → Int}
  {ofNat : Nat → Int}
  {slen : ByteArray → Int}
  {place : Nat → Int → Nat → Nat}
  {inR : Int → Nat → Prop}
  {nz : Int → Prop}
  {geZ : Int → Prop}
  {rd : AHeap → Nat → Nat → Nat → List Value → Prop}
  {wr : AHeap → Nat → Nat → List Value → AHeap → Prop}
  {push : AHeap → Nat → List Value → AHeap}
  {next : AHeap → Nat}
  {mkOK : Int → Int → Prop}
  {nat : Int → Nat}
  {zeros : List Value → Int → List Value}
  {sadd : ByteArray → ByteArray → (ByteArray → Prop) → Prop}
  {eqAgg : TypeId → Array Value → Array Value → (Bool → Prop) → Prop}
  {cut : Nat → Int → Prop}
  {slc : TypeId → Value → Option Value → Option Value → Option Value → (Option Addr → Nat → Nat → Prop) → Prop}
  {sslc : TypeId → ByteArray → Option Value → Option Value → (ByteArray → Prop) → Prop}
  {strAt : ByteArray → Int → (Int → Prop) → Prop}
  {part : TypeId → Array Value → Nat → Value → Prop}
  {app : List TypeId → List Value → AHeap → (Option Addr → Nat → Nat → AHeap → Prop) → Prop}
  {cpy : List TypeId → List Value → AHeap → (Int → AHeap → Prop) → Prop}
  {putAt : AHeap → Nat → Nat → List Value → AHeap}
  {fresh : AHeap → AHeap}
  {lowered : AHeap → AHeap → AHeap}
  {bump : AHeap → Nat → AHeap}
  {wrote : AHeap → AHeap → Bool}
  {addN : Nat → Nat → Nat}
  {lt : Nat → Nat → Prop}
  {ne : Nat → Nat → Prop}
  {fpAll : Bool → Bool → Bool → Nat → Nat → Prop}
  {brk : (Unit → Prop) → Prop}
  {yn : Nat → Nat}
  {rng : FuncId → Nat → SS → (Exit → SS → Prop) → Prop}
  {mget : TypeId → Value → Value → AHeap → Value → Bool → Prop}
  {mput : TypeId → Value → Value → Value → AHeap → AHeap → Prop}
  {mnew : AHeap → AHeap}
  {bytes : TypeId → TypeId → Option Addr → Nat → AHeap → ByteArray → Prop}
  {clr : List TypeId → List Value → AHeap → AHeap → Prop}
  (hA : AOK progU hint prims ⟨call, head, arith, cmp, scmp, bnot, bsame, conv, neg, imax, imin, ofNat, slen, place, inR, nz, geZ, rd, wr, push, next, mkOK, nat, zeros, sadd, eqAgg, cut, slc, sslc, strAt, part, app, cpy, putAt, fresh, lowered, bump, wrote, addN, lt, ne, fpAll, brk, yn, rng, mget, mput, mnew, bytes, clr⟩)
include hA

theorem great_in {h : AHeap} {al : Option Addr} {nl cl : Nat} {l : List Rec} (hl : Recs h al nl l) (hnl : (nl : Int) ≤ 9223372036854775807) {i : Int} (hi0 : 0 ≤ i) (hi1 : i < nl) (hfl : (rat l i).frm.length ≤ 10) {Q : Exit → SS → Prop}
    (h1 : (∀ f ∈ (rat l i).frm, f.size ≤ 100) → Q (.exit 2) ⟨[(0, .slice al nl cl), (3, .int .i64 i)], 0, [], h⟩)
    (h2 : ∀ e kn K, Q .ret ⟨(2, .bool true) :: e, kn, K, h⟩) :
    ∀ k : Int, 0 ≤ k → k ≤ (rat l i).frm.length → (∀ j : Int, 0 ≤ j → j < k → (sat' (rat l i).frm j).size ≤ 100) → head 11 7 0 ⟨[(0, .slice al nl cl), (3, .int .i64 i), (4, .int .i64 k)], 0, [], h⟩ Q := by
  have hll := hl.len
  obtain ⟨b, o, x, hae, hbn, rel, _, _, _, r2, _⟩ := hl.at hi0 hi1
  obtain ⟨xnm, xhow, xfa, xfn, xfc, xarg, xda, xdn, xdc, xdg⟩ := x
  have hfr : Strs h xfa xfn xfc (rat l i).frm := rel.frm
  have hfl' := hfr.len
  simp only [] at r2
  refine countUp (fun k hk0 hkn ih hall => ?_)
  refine hA.roundR Try.func11 r11_ok ?_; (try (conv => cbv)); repeat (refine brk_ok hA ?_; (try (conv => cbv)))
  refine ⟨b, o, hae, in_ok hA hi0 hi1, ?_⟩
  ((try (conv => cbv)); repeat (refine brk_ok hA ?_; (try (conv => cbv))))
  refine ⟨xfa, xfn, xfc, rd_fld hA r2, ?_⟩
  ((try (conv => cbv)); repeat (refine brk_ok hA ?_; (try (conv => cbv))))
  refine br (k < xfn) (by rw [e_lss hA, e_ofNat hA]) (fun c1 => ?_) (fun c1 => ?_) <;> (try (conv => cbv)) <;> repeat (refine brk_ok hA ?_; (try (conv => cbv)))
  · refine ⟨b, o, hae, in_ok hA hi0 hi1, ?_⟩
    ((try (conv => cbv)); repeat (refine brk_ok hA ?_; (try (conv => cbv))))
    refine ⟨xfa, xfn, xfc, rd_fld hA r2, ?_⟩
    ((try (conv => cbv)); repeat (refine brk_ok hA ?_; (try (conv => cbv))))
    obtain ⟨b', o', s, hae', hbn', hs, hrd⟩ := hfr.at hk0 c1
    refine ⟨b', o', hae', in_ok hA hk0 c1, ?_⟩
    ((try (conv => cbv)); repeat (refine brk_ok hA ?_; (try (conv => cbv))))
    refine ⟨s, rd_ok hA hrd, ?_⟩
    ((try (conv => cbv)); repeat (refine brk_ok hA ?_; (try (conv => cbv))))
    refine br (100 < (s.size : Int)) (by rw [e_gtr hA, e_slen hA]) (fun c2 => ?_) (fun c2 => ?_) <;> (try (conv => cbv)) <;> repeat (refine brk_ok hA ?_; (try (conv => cbv)))
    · exact h2 _ _ _
    · rw [add64 hA (by omega) (by omega)]
      refine ih (by omega) (fun j j0 j1 => ?_)
      by_cases ej : j = k
      · rw [ej, ← hs]; omega
      · exact hall j j0 (by omega)
  · refine h1 (fun f hf => ?_)
    obtain ⟨j, hj⟩ := List.getElem?_of_mem hf
    have hjl : j < (rat l i).frm.length := (List.getElem?_eq_some_iff.1 hj).1
    have := hall j (by omega) (by omega)
    unfold sat' at this
    rw [Int.toNat_natCast, List.getD, hj] at this
    exact this

theorem great_loop {h : AHeap} {al : Option Addr} {nl cl : Nat} {l : List Rec} (hl : Recs h al nl l) (hnl : (nl : Int) ≤ 9223372036854775807) {Q : Exit → SS → Prop}
    (h1 : (∀ i : Int, 0 ≤ i → i < l.length → smallR (rat l i)) → Q (.exit 0) ⟨[(0, .slice al nl cl)], 0, [], h⟩)
    (h2 : ∀ e kn K, Q .ret ⟨(2, .bool true) :: e, kn, K, h⟩) :
    ∀ i : Int, 0 ≤ i → i ≤ nl → (∀ j : Int, 0 ≤ j → j < i → smallR (rat l j)) → head 11 2 0 ⟨[(0, .slice al nl cl), (3, .int .i64 i)], 0, [], h⟩ Q := by
  have hll := hl.len
  refine countUp (fun i hi0 hin ih hall => ?_)
  refine hA.roundR Try.func11 r11_ok ?_; (try (conv => cbv)); repeat (refine brk_ok hA ?_; (try (conv => cbv)))
  refine br (i < nl) (by rw [e_lss hA, e_ofNat hA]) (fun c1 => ?_) (fun c1 => ?_) <;> (try (conv => cbv)) <;> repeat (refine brk_ok hA ?_; (try (conv => cbv)))
  · obtain ⟨b, o, x, hae, hbn, rel, _, r0, _, r2, _, r4, _⟩ := hl.at hi0 c1
    obtain ⟨xnm, xhow, xfa, xfn, xfc, xarg, xda, xdn, xdc, xdg⟩ := x
    have hnm : xnm = (rat l i).name := rel.name
    have hfl := (show Strs h xfa xfn xfc (rat l i).frm from rel.frm).len
    have hdl := (show Byts h xda xdn xdc (rat l i).data from rel.data).len
    simp only [] at r0 r2 r4
    refine ⟨b, o, hae, in_ok hA hi0 c1, ?_⟩
    ((try (conv => cbv)); repeat (refine brk_ok hA ?_; (try (conv => cbv))))
    refine ⟨xnm, rd_fld hA r0, ?_⟩
    ((try (conv => cbv)); repeat (refine brk_ok hA ?_; (try (conv => cbv))))
    refine br (100 < (xnm.size : Int)) (by rw [e_gtr hA, e_slen hA]) (fun c2 => ?_) (fun c2 => ?_) <;> (try (conv => cbv)) <;> repeat (refine brk_ok hA ?_; (try (conv => cbv)))
    · exact h2 _ _ _
    refine ⟨b, o, hae, in_ok hA hi0 c1, ?_⟩
    ((try (conv => cbv)); repeat (refine brk_ok hA ?_; (try (conv => cbv))))
    refine ⟨xfa, xfn, xfc, rd_fld hA r2, ?_⟩
    ((try (conv => cbv)); repeat (refine brk_ok hA ?_; (try (conv => cbv))))
    refine br (10 < (xfn : Int)) (by rw [e_gtr hA, e_ofNat hA]) (fun c3 => ?_) (fun c3 => ?_) <;> (try (conv => cbv)) <;> repeat (refine brk_ok hA ?_; (try (conv => cbv)))
    · exact h2 _ _ _
    refine ⟨b, o, hae, in_ok hA hi0 c1, ?_⟩
    ((try (conv => cbv)); repeat (refine brk_ok hA ?_; (try (conv => cbv))))
    refine ⟨xda, xdn, xdc, rd_fld hA r4, ?_⟩
    ((try (conv => cbv)); repeat (refine brk_ok hA ?_; (try (conv => cbv))))
    refine br (300 < (xdn : Int)) (by rw [e_gtr hA, e_ofNat hA]) (fun c4 => ?_) (fun c4 => ?_) <;> (try (conv => cbv)) <;> repeat (refine brk_ok hA ?_; (try (conv => cbv)))
    · exact h2 _ _ _
    refine great_in hA hl hnl hi0 c1 (by omega) (fun hf => ?_) (fun e kn K => ?_) 0 (by omega) (by omega) (fun j j0 j1 => by omega)
    · ((try (conv => cbv)); repeat (refine brk_ok hA ?_; (try (conv => cbv))))
      rw [add64 hA (by omega) (by omega)]
      refine ih c1 (fun j j0 j1 => ?_)
      by_cases ej : j = i
      · rw [ej]
        exact ⟨by rw [← hnm]; omega, by omega, by omega, hf⟩
      · exact hall j j0 (by omega)
    · ((try (conv => cbv)); repeat (refine brk_ok hA ?_; (try (conv => cbv))))
      exact h2 _ _ _
  · exact h1 (fun j j0 j1 => hall j j0 (by omega))

theorem great_ok {h : AHeap} (hlow : h.low ≤ h.next) {al : Option Addr} {nl cl : Nat} {l : List Rec} (hl : Recs h al nl l) (hnl : (nl : Int) ≤ 9223372036854775807) {Q : Value → AHeap → Prop}
    (hQ : ∀ b : Bool, (b = false → Small l) → Q (.bool b) h) : call 11 [.slice al nl cl] h Q := by
  have hll := hl.len
  refine hA.bodyR Try.func11 r11_ok (show prims _ _ _ = none from rfl) hlow ?_; (try (conv => cbv)); repeat (refine brk_ok hA ?_; (try (conv => cbv)))
  refine great_loop hA hl hnl (fun hs => ?_) (fun e kn K => ?_) 0 (by omega) (by omega) (fun j j0 j1 => by omega)
  · ((try (conv => cbv)); repeat (refine brk_ok hA ?_; (try (conv => cbv))))
    have hc50 : cmp .gtr (ofNat nl) 50 = decide (50 < (nl : Int)) := by rw [e_gtr hA, e_ofNat hA]
    refine br (20 < (nl : Int)) (by rw [e_gtr hA, e_ofNat hA]) (fun c1 => ?_) (fun c1 => ?_) <;> (try (conv => cbv)) <;> repeat (refine brk_ok hA ?_; (try (conv => cbv)))
    · refine br ((nl : Int) ≤ 40) (by rw [e_leq hA, e_ofNat hA]) (fun c2 => ?_) (fun c2 => ?_) <;> (try (conv => cbv)) <;> repeat (refine brk_ok hA ?_; (try (conv => cbv)))
      · exact hQ _ (fun q => by cases q)
      · rw [hc50]
        exact hQ _ (fun q => ⟨hs, by have := of_decide_eq_false q; omega⟩)
    · rw [hc50]
      exact hQ _ (fun q => ⟨hs, by have := of_decide_eq_false q; omega⟩)
  · ((try (conv => cbv)); repeat (refine brk_ok hA ?_; (try (conv => cbv))))
    exact hQ _ (fun q => by cases q)

theorem long_loop {h : AHeap} {al : Option Addr} {nl cl : Nat} {l : List Str} (hl : Strs h al nl cl l) (hnl : (nl : Int) ≤ 9223372036854775807) {Q : Exit → SS → Prop}
    (h1 : (∀ f ∈ l, f.size ≤ 100) → Q (.exit 0) ⟨[(0, .slice al nl cl)], 0, [], h⟩)
    (h2 : ∀ e kn K, Q .ret ⟨(2, .bool true) :: e, kn, K, h⟩) :
    ∀ i : Int, 0 ≤ i → i ≤ nl → (∀ j : Int, 0 ≤ j → j < i → (sat' l j).size ≤ 100) → head 25 2 0 ⟨[(0, .slice al nl cl), (3, .int .i64 i)], 0, [], h⟩ Q := by
  have hll := hl.len
  refine countUp (fun i hi0 hin ih hall => ?_)
  refine hA.roundR Try.func25 r25_ok ?_; (try (conv => cbv)); repeat (refine brk_ok hA ?_; (try (conv => cbv)))
  refine br (i < nl) (by rw [e_lss hA, e_ofNat hA]) (fun c1 => ?_) (fun c1 => ?_) <;> (try (conv => cbv)) <;> repeat (refine brk_ok hA ?_; (try (conv => cbv)))
  · obtain ⟨b', o', s, hae', hbn', hs, hrd⟩ := hl.at hi0 c1
    refine ⟨b', o', hae', in_ok hA hi0 c1, ?_⟩
    ((try (conv => cbv)); repeat (refine brk_ok hA ?_; (try (conv => cbv))))
    refine ⟨s, rd_ok hA hrd, ?_⟩
    ((try (conv => cbv)); repeat (refine brk_ok hA ?_; (try (conv => cbv))))
    refine br (100 < (s.size : Int)) (by rw [e_gtr hA, e_slen hA]) (fun c2 => ?_) (fun c2 => ?_) <;> (try (conv => cbv)) <;> repeat (refine brk_ok hA ?_; (try (conv => cbv)))
    · exact h2 _ _ _
    · rw [add64 hA (by omega) (by omega)]
      refine ih (by omega) (fun j j0 j1 => ?_)
      by_cases ej : j = i
      · rw [ej, ← hs]; omega
      · exact hall j j0 (by omega)
  · refine h1 (fun f hf => ?_)
    obtain ⟨j, hj⟩ := List.getElem?_of_mem hf
    have hjl : j < l.length := (List.getElem?_eq_some_iff.1 hj).1
    have := hall j (by omega) (by omega)
    unfold sat' at this
    rw [Int.toNat_natCast, List.getD, hj] at this
    exact this

theorem long_ok {h : AHeap} (hlow : h.low ≤ h.next) {al : Option Addr} {nl cl : Nat} {l : List Str} (hl : Strs h al nl cl l) (hnl : (nl : Int) ≤ 9223372036854775807) {Q : Value → AHeap → Prop}
    (hQ : ∀ b : Bool, (b = false → l.length ≤ 20 ∧ ∀ f ∈ l, f.size ≤ 100) → Q (.bool b) h) : call 25 [.slice al nl cl] h Q := by
  have hll := hl.len
  refine hA.bodyR Try.func25 r25_ok (show prims _ _ _ = none from rfl) hlow ?_; (try (conv => cbv)); repeat (refine brk_ok hA ?_; (try (conv => cbv)))
  refine long_loop hA hl hnl (fun hs => ?_) (fun e kn K => ?_) 0 (by omega) (by omega) (fun j j0 j1 => by omega)
  · ((try (conv => cbv)); repeat (refine brk_ok hA ?_; (try (conv => cbv))))
    have hc : cmp .gtr (ofNat nl) 20 = decide (20 < (nl : Int)) := by rw [e_gtr hA, e_ofNat hA]
    rw [hc]
    exact hQ _ (fun q => ⟨by have := of_decide_eq_false q; omega, hs⟩)
  · ((try (conv => cbv)); repeat (refine brk_ok hA ?_; (try (conv => cbv))))
    exact hQ _ (fun q => by cases q)

theorem has_loop {h : AHeap} {al : Option Addr} {nl cl : Nat} {l : List Str} (hl : Strs h al nl cl l) (hnl : (nl : Int) ≤ 9223372036854775807) {s : Str} {Q : Exit → SS → Prop}
    (h1 : s ∉ l → Q (.exit 0) ⟨[], 0, [], h⟩)
    (h2 : ∀ e kn K, s ∈ l → Q .ret ⟨(4, .bool true) :: e, kn, K, h⟩) :
    ∀ i : Int, 0 ≤ i → i ≤ nl → (∀ j : Int, 0 ≤ j → j < i → sat' l j ≠ s) → head 31 2 0 ⟨[(0, .slice al nl cl), (1, .string s), (5, .int .i64 i)], 0, [], h⟩ Q := by
  have hll := hl.len
  refine countUp (fun i hi0 hin ih hall => ?_)
  refine hA.roundR Try.func31 r31_ok ?_; (try (conv => cbv)); repeat (refine brk_ok hA ?_; (try (conv => cbv)))
  refine br (i < nl) (by rw [e_lss hA, e_ofNat hA]) (fun c1 => ?_) (fun c1 => ?_) <;> (try (conv => cbv)) <;> repeat (refine brk_ok hA ?_; (try (conv => cbv)))
  · obtain ⟨b', o', t, hae', hbn', ht, hrd⟩ := hl.at hi0 c1
    refine ⟨b', o', hae', in_ok hA hi0 c1, ?_⟩
    ((try (conv => cbv)); repeat (refine brk_ok hA ?_; (try (conv => cbv))))
    refine ⟨t, rd_ok hA hrd, ?_⟩
    ((try (conv => cbv)); repeat (refine brk_ok hA ?_; (try (conv => cbv))))
    refine br (t = s) (by rw [e_str hA]) (fun c2 => ?_) (fun c2 => ?_) <;> (try (conv => cbv)) <;> repeat (refine brk_ok hA ?_; (try (conv => cbv)))
    · refine h2 _ _ _ ?_
      rw [← c2, ht]
      unfold sat'
      rw [List.getD, List.getElem?_eq_getElem (by omega)]
      exact List.getElem_mem _
    · rw [add64 hA (by omega) (by omega)]
      refine ih (by omega) (fun j j0 j1 => ?_)
      by_cases ej : j = i
      · rw [ej, ← ht]; exact c2
      · exact hall j j0 (by omega)
  · refine h1 (fun hf => ?_)
    obtain ⟨j, hj⟩ := List.getElem?_of_mem hf
    have hjl : j < l.length := (List.getElem?_eq_some_iff.1 hj).1
    have := hall j (by omega) (by omega)
    unfold sat' at this
    rw [Int.toNat_natCast, List.getD, hj] at this
    exact this rfl

theorem has_ok {h : AHeap} (hlow : h.low ≤ h.next) {al : Option Addr} {nl cl : Nat} {l : List Str} (hl : Strs h al nl cl l) (hnl : (nl : Int) ≤ 9223372036854775807) {s : Str} {Q : Value → AHeap → Prop}
    (hQ : ∀ b : Bool, (b = true ↔ s ∈ l) → Q (.bool b) h) : call 31 [.slice al nl cl, .string s] h Q := by
  refine hA.bodyR Try.func31 r31_ok (show prims _ _ _ = none from rfl) hlow ?_; (try (conv => cbv)); repeat (refine brk_ok hA ?_; (try (conv => cbv)))
  refine has_loop hA hl hnl (fun hs => ?_) (fun e kn K hs => ?_) 0 (by omega) (by omega) (fun j j0 j1 => by omega)
  · ((try (conv => cbv)); repeat (refine brk_ok hA ?_; (try (conv => cbv))))
    exact hQ _ (no hs)
  · ((try (conv => cbv)); repeat (refine brk_ok hA ?_; (try (conv => cbv))))
    exact hQ _ (yes hs)

end Go.Proofs.Ytopppccddnplkaa
