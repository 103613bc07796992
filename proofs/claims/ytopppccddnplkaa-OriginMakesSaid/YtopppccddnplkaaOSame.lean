/-
  Same, of the reference.
-/
import Derived.Test.YtopppccddnplkaaONew
namespace Go.Proofs.Ytopppccddnplkaa
open Go.Sim
open Classical
set_option linter.unusedVariables false
set_option maxRecDepth 100000

variable {call : FuncId → List Value → AHeap → (Value → AHeap → Prop) → Prop}
  {head : FuncId → Nat → Nat → SS → (Exit → SS → Prop) → Prop}
  {arith : BinOp → IntKind → Int → Int → Int}
  {cmp : BinOp → Int → Int → Bool}
  {scmp : BinOp → ByteArray → ByteArray → Bool}
  {bnot : Bool → Bool}
  {bsame : Bool → Bool → Bool}
  {conv : IntKind → Int → Int}
  {neg : IntKind → Int → Int}
  {imax : Int → Int → Int}
  {imin : Int → Int → Int}
  {ofNat : Nat → Int}
  {slen : ByteArray → Int}
  {place : Nat → Int → Nat → Nat}
  {inR : Int → Nat → Prop}
  {nz : Int → Prop}
  {geZ : Int → Prop}
  {rd : AHeap → Nat → Nat → Nat → List Value → Prop}
  {wr : AHeap → Nat → Nat → List Value → AHeap → Prop}
  {push : AHeap → Nat → List Value → AHeap}
  {next : AHeap → Nat}
  {mkOK : Int → Int → Prop}
  {nat : Int → Nat}
  {zeros : List Value → Int → List Value}
  {sadd : ByteArray → ByteArray → (ByteArray → Prop) → Prop}
  {eqAgg : TypeId → Array Value → Array Value → (Bool → Prop) → Prop}
  {cut : Nat → Int → Prop}
  {slc : TypeId → Value → Option Value → Option Value → Option Value → (Option Addr → Nat → Nat → Prop) → Prop}
  {sslc : TypeId → ByteArray → Option Value → Option Value → (ByteArray → Prop) → Prop}
  {strAt : ByteArray → Int → (Int → Prop) → Prop}
  {part : TypeId → Array Value → Nat → Value → Prop}
  {app : List TypeId → List Value → AHeap → (Option Addr → Nat → Nat → AHeap → Prop) → Prop}
  {cpy : List TypeId → List Value → AHeap → (Int → AHeap → Prop) → Prop}
  {putAt : AHeap → Nat → Nat → List Value → AHeap}
  {fresh : AHeap → AHeap}
  {lowered : AHeap → AHeap → AHeap}
  {bump : AHeap → Nat → AHeap}
  {wrote : AHeap → AHeap → Bool}
  {addN : Nat → Nat → Nat}
  {lt : Nat → Nat → Prop}
  {ne : Nat → Nat → Prop}
  {fpAll : Bool → Bool → Bool → Nat → Nat → Prop}
  {brk : (Unit → Prop) → Prop}
  {yn : Nat → Nat}
  {rng : FuncId → Nat → SS → (Exit → SS → Prop) → Prop}
  {mget : TypeId → Value → Value → AHeap → Value → Bool → Prop}
  {mput : TypeId → Value → Value → Value → AHeap → AHeap → Prop}
  {mnew : AHeap → AHeap}
  {bytes : TypeId → TypeId → Option Addr → Nat → AHeap → ByteArray → Prop}
  {clr : List TypeId → List Value → AHeap → AHeap → Prop}
  (hA : AOK progU hint prims ⟨call, head, arith, cmp, scmp, bnot, bsame, conv, neg, imax, imin, ofNat, slen, place, inR, nz, geZ, rd, wr, push, next, mkOK, nat, zeros, sadd, eqAgg, cut, slc, sslc, strAt, part, app, cpy, putAt, fresh, lowered, bump, wrote, addN, lt, ne, fpAll, brk, yn, rng, mget, mput, mnew, bytes, clr⟩)
include hA

set_option maxHeartbeats 2000000 in
theorem same_loop {h0 : AHeap} (hlow0 : h0.low ≤ h0.next) {al am : Option Addr} {nl cl nm cm : Nat} {l m : List Rec} (hl : Recs h0 al nl l) (hm : Recs h0 am nm m) (hnl : (nl : Int) ≤ 1000000) (hnm : nm = nl) (okl : ∀ r ∈ l, okB r.data ∧ r.frm.length ≤ 1000000) (okm : ∀ r ∈ m, okB r.data) {Q : Exit → SS → Prop}
    (h0' : l = m → ∀ e kn K h, Ext h0 h → Q (.exit 0) ⟨e, kn, K, h⟩) (h1 : l ≠ m → ∀ e kn K h, Ext h0 h → Q .ret ⟨(4, .bool false) :: e, kn, K, h⟩) :
    ∀ i : Int, 0 ≤ i → i ≤ nl → ∀ h, Ext h0 h → (∀ j : Int, 0 ≤ j → j < i → rat l j = rat m j) → head 23 4 0 ⟨[(0, .slice al nl cl), (1, .slice am nm cm), (5, .int .i64 i)], 0, [], h⟩ Q := by
  have hll := hl.len
  have hml := hm.len
  subst hnm
  refine countUp (fun i hi0 hin ih h e hall => ?_)
  refine hA.roundR Try.func23 r23_ok ?_; (try (conv => cbv)); repeat (refine brk_ok hA ?_; (try (conv => cbv)))
  refine br (i < nm) (by rw [e_lss hA, e_ofNat hA]) (fun c1 => ?_) (fun c1 => ?_) <;> (try (conv => cbv)) <;> repeat (refine brk_ok hA ?_; (try (conv => cbv)))
  · obtain ⟨h9, hh9⟩ : ∃ z, z = bump h 79 := ⟨_, rfl⟩
    have e9 : Ext h h9 := by rw [hh9, e_bump hA]; exact .bump _ _
    rw [← hh9]
    have e09 := e.trans e9
    obtain ⟨b, o, x, hae, hbn, rel, _, r0, r1, r2, r3, r4, r5⟩ := (hl.ext e09).at hi0 c1
    obtain ⟨b', o', y, hae', hbn', rel', _, s0, s1, s2, s3, s4, s5⟩ := (hm.ext e09).at hi0 c1
    have okl' := okl (rat l i) (rat_mem hi0 (by omega))
    have okm' := okm (rat m i) (rat_mem hi0 (by omega))
    have hin' : inR i nm := in_ok hA hi0 c1
    have out : rat l i ≠ rat m i → l ≠ m := fun q w => q (by rw [w])
    generalize hrr : rat l i = r at *
    generalize hs : rat m i = s at *
    obtain ⟨xnm, xhow, xfa, xfn, xfc, xarg, xda, xdn, xdc, xdg⟩ := x
    obtain ⟨ynm, yhow, yfa, yfn, yfc, yarg, yda, ydn, ydc, ydg⟩ := y
    have hX := rel.name; have hX' := rel'.name
    have hH := rel.how; have hH' := rel'.how
    have hG := rel.arg; have hG' := rel'.arg
    have hD := rel.dig; have hD' := rel'.dig
    have hF := rel.frm; have hF' := rel'.frm
    have hB := rel.data; have hB' := rel'.data
    simp only [] at hX hX' hH hH' hG hG' hD hD' hF hF' hB hB' r0 r1 r2 r3 r4 r5 s0 s1 s2 s3 s4 s5
    obtain ⟨u, hu⟩ : ∃ z, z = str r.data := ⟨_, rfl⟩
    obtain ⟨v, hv⟩ : ∃ z, z = str s.data := ⟨_, rfl⟩
    refine ⟨b, o, hae, hin', ?_⟩
    ((try (conv => cbv)); repeat (refine brk_ok hA ?_; (try (conv => cbv))))
    refine ⟨xnm, rd_fld hA r0, ?_⟩
    ((try (conv => cbv)); repeat (refine brk_ok hA ?_; (try (conv => cbv))))
    refine ⟨b', o', hae', hin', ?_⟩
    ((try (conv => cbv)); repeat (refine brk_ok hA ?_; (try (conv => cbv))))
    refine ⟨ynm, rd_fld hA s0, ?_⟩
    ((try (conv => cbv)); repeat (refine brk_ok hA ?_; (try (conv => cbv))))
    refine br (xnm ≠ ynm) (by rw [e_strn hA]) (fun c2 => ?_) (fun c2 => ?_) <;> (try (conv => cbv)) <;> repeat (refine brk_ok hA ?_; (try (conv => cbv)))
    · exact h1 (out (fun w => c2 (by rw [hX, hX', w]))) _ _ _ _ e09
    refine ⟨b, o, hae, hin', ?_⟩
    ((try (conv => cbv)); repeat (refine brk_ok hA ?_; (try (conv => cbv))))
    refine ⟨xhow, rd_fld hA r1, ?_⟩
    ((try (conv => cbv)); repeat (refine brk_ok hA ?_; (try (conv => cbv))))
    refine ⟨b', o', hae', hin', ?_⟩
    ((try (conv => cbv)); repeat (refine brk_ok hA ?_; (try (conv => cbv))))
    refine ⟨yhow, rd_fld hA s1, ?_⟩
    ((try (conv => cbv)); repeat (refine brk_ok hA ?_; (try (conv => cbv))))
    refine br (xhow ≠ yhow) (by rw [e_neq hA]) (fun c3 => ?_) (fun c3 => ?_) <;> (try (conv => cbv)) <;> repeat (refine brk_ok hA ?_; (try (conv => cbv)))
    · exact h1 (out (fun w => c3 (by rw [hH, hH', w]))) _ _ _ _ e09
    refine ⟨b, o, hae, hin', ?_⟩
    ((try (conv => cbv)); repeat (refine brk_ok hA ?_; (try (conv => cbv))))
    refine ⟨xarg, rd_fld hA r3, ?_⟩
    ((try (conv => cbv)); repeat (refine brk_ok hA ?_; (try (conv => cbv))))
    refine ⟨b', o', hae', hin', ?_⟩
    ((try (conv => cbv)); repeat (refine brk_ok hA ?_; (try (conv => cbv))))
    refine ⟨yarg, rd_fld hA s3, ?_⟩
    ((try (conv => cbv)); repeat (refine brk_ok hA ?_; (try (conv => cbv))))
    refine br (xarg ≠ yarg) (by rw [e_neq hA]) (fun c4 => ?_) (fun c4 => ?_) <;> (try (conv => cbv)) <;> repeat (refine brk_ok hA ?_; (try (conv => cbv)))
    · exact h1 (out (fun w => c4 (by rw [hG, hG', w]))) _ _ _ _ e09
    refine ⟨b, o, hae, hin', ?_⟩
    ((try (conv => cbv)); repeat (refine brk_ok hA ?_; (try (conv => cbv))))
    refine ⟨xdg, rd_fld hA r5, ?_⟩
    ((try (conv => cbv)); repeat (refine brk_ok hA ?_; (try (conv => cbv))))
    refine ⟨b', o', hae', hin', ?_⟩
    ((try (conv => cbv)); repeat (refine brk_ok hA ?_; (try (conv => cbv))))
    refine ⟨ydg, rd_fld hA s5, ?_⟩
    ((try (conv => cbv)); repeat (refine brk_ok hA ?_; (try (conv => cbv))))
    refine br (xdg ≠ ydg) (by rw [e_neq hA]) (fun c5 => ?_) (fun c5 => ?_) <;> (try (conv => cbv)) <;> repeat (refine brk_ok hA ?_; (try (conv => cbv)))
    · exact h1 (out (fun w => c5 (by rw [hD, hD', w]))) _ _ _ _ e09
    have hBx := RowV.form hB
    have hBy := RowV.form hB'
    rcases hBx with rfl | ⟨bx, ox, rfl, lx⟩ | rfl <;> rcases hBy with rfl | ⟨by', oy, rfl, ly⟩ | rfl <;> (
      refine ⟨b, o, hae, hin', ?_⟩
      ((try (conv => cbv)); repeat (refine brk_ok hA ?_; (try (conv => cbv))))
      refine ⟨_, xdn, xdc, rd_fld hA r4, ?_⟩
      ((try (conv => cbv)); repeat (refine brk_ok hA ?_; (try (conv => cbv))))
      refine ⟨u, by rw [hu]; exact bytes_is hA hB, ?_⟩
      ((try (conv => cbv)); repeat (refine brk_ok hA ?_; (try (conv => cbv))))
      refine ⟨b', o', hae', hin', ?_⟩
      ((try (conv => cbv)); repeat (refine brk_ok hA ?_; (try (conv => cbv))))
      refine ⟨_, ydn, ydc, rd_fld hA s4, ?_⟩
      ((try (conv => cbv)); repeat (refine brk_ok hA ?_; (try (conv => cbv))))
      refine ⟨v, by rw [hv]; exact bytes_is hA hB', ?_⟩
      ((try (conv => cbv)); repeat (refine brk_ok hA ?_; (try (conv => cbv))))
      refine br (u ≠ v) (by rw [e_strn hA]) (fun c6 => ?_) (fun c6 => ?_) <;> (try (conv => cbv)) <;> repeat (refine brk_ok hA ?_; (try (conv => cbv)))
      · ((try (conv => cbv)); repeat (refine brk_ok hA ?_; (try (conv => cbv))))
        exact h1 (out (fun w => c6 (by rw [hu, hv, w]))) _ _ _ _ e09
      refine ⟨b, o, hae, hin', ?_⟩
      ((try (conv => cbv)); repeat (refine brk_ok hA ?_; (try (conv => cbv))))
      refine ⟨xfa, xfn, xfc, rd_fld hA r2, ?_⟩
      ((try (conv => cbv)); repeat (refine brk_ok hA ?_; (try (conv => cbv))))
      refine ⟨b', o', hae', hin', ?_⟩
      ((try (conv => cbv)); repeat (refine brk_ok hA ?_; (try (conv => cbv))))
      refine ⟨yfa, yfn, yfc, rd_fld hA s2, ?_⟩
      ((try (conv => cbv)); repeat (refine brk_ok hA ?_; (try (conv => cbv))))
      have fX := ext_fresh hA h9
      refine sames_ok hA (low_fresh hA h9) (by have := hF.len; omega) (hF.ext fX) (hF'.ext fX) (fun bb hz ez hbb => ⟨_, rfl, ?_⟩)
      ((try (conv => cbv)); repeat (refine brk_ok hA ?_; (try (conv => cbv))))
      obtain ⟨hN, hhN⟩ : ∃ z, z = lowered h9 hz := ⟨_, rfl⟩
      have eN : Ext h0 hN := by rw [hhN]; exact ext_low hA hlow0 e09 ez
      rw [← hhN]
      ((try (conv => cbv)); repeat (refine brk_ok hA ?_; (try (conv => cbv))))
      have bt : bnot true = false := by rw [e_bnot hA]; rfl
      have bf : bnot false = true := by rw [e_bnot hA]; rfl
      cases bb with
      | true =>
        rw [bt]
        ((try (conv => cbv)); repeat (refine brk_ok hA ?_; (try (conv => cbv))))
        rw [add64 hA (by omega) (by omega)]
        refine ih c1 hN eN (fun j j0 j1 => ?_)
        by_cases ej : j = i
        · rw [ej, hrr, hs]
          exact rec_ext (by rw [← hX, ← hX']; exact Decidable.not_not.1 c2) (by rw [← hH, ← hH']; exact Decidable.not_not.1 c3) (hbb.1 rfl) (by rw [← hG, ← hG']; exact Decidable.not_not.1 c4) (str_inj okl'.1 okm' (by rw [← hu, ← hv]; exact Decidable.not_not.1 c6)) (by rw [← hD, ← hD']; exact Decidable.not_not.1 c5)
        · exact hall j j0 (by omega)
      | false =>
        rw [bf]
        ((try (conv => cbv)); repeat (refine brk_ok hA ?_; (try (conv => cbv))))
        exact h1 (out (fun w => by have := hbb.2 (by rw [w]); cases this)) _ _ _ _ eN)
  · exact h0' (list_rat (by omega) (fun j j0 j1 => hall j j0 (by omega))) _ _ _ h e

theorem same_ok {h : AHeap} (hlow : h.low ≤ h.next) {al am : Option Addr} {nl cl nm cm : Nat} {l m : List Rec} (hl : Recs h al nl l) (hm : Recs h am nm m) (hnl : (nl : Int) ≤ 1000000) (okl : ∀ r ∈ l, okB r.data ∧ r.frm.length ≤ 1000000) (okm : ∀ r ∈ m, okB r.data) {Q : Value → AHeap → Prop}
    (hQ : ∀ b h', Ext h h' → (b = true ↔ l = m) → Q (.bool b) h') : call 23 [.slice al nl cl, .slice am nm cm] h Q := by
  have hll := hl.len
  have hml := hm.len
  refine hA.bodyR Try.func23 r23_ok (show prims _ _ _ = none from rfl) hlow ?_; (try (conv => cbv)); repeat (refine brk_ok hA ?_; (try (conv => cbv)))
  refine br ((nl : Int) ≠ nm) (by rw [e_neq hA, e_ofNat hA, e_ofNat hA]) (fun c1 => ?_) (fun c1 => ?_) <;> (try (conv => cbv)) <;> repeat (refine brk_ok hA ?_; (try (conv => cbv)))
  · exact hQ _ _ (.refl h) (no (fun w => by rw [w] at hll; omega))
  have e : nm = nl := by omega
  refine same_loop hA hlow hl hm hnl e okl okm (fun w e kn K h' x => ?_) (fun w e kn K h' x => ?_) 0 (by omega) (by omega) h (.refl h) (fun j j0 j1 => by omega)
  · ((try (conv => cbv)); repeat (refine brk_ok hA ?_; (try (conv => cbv))))
    exact hQ _ _ x (yes w)
  · ((try (conv => cbv)); repeat (refine brk_ok hA ?_; (try (conv => cbv))))
    exact hQ _ _ x (no w)

end Go.Proofs.Ytopppccddnplkaa
