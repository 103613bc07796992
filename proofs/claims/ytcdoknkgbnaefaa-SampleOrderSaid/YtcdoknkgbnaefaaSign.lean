/-
  sample.Sign, fringeref13.Sign: what they return.
-/
import Derived.Test.YtcdoknkgbnaefaaBitsSign
namespace Go.Proofs.Ytcdoknkgbnaefaa
open Go.Sim
set_option linter.unusedVariables false
set_option maxRecDepth 100000

variable {call : FuncId → List Value → AHeap → (Value → AHeap → Prop) → Prop}
  {head : FuncId → Nat → Nat → SS → (Exit → SS → Prop) → Prop}
  {arith : BinOp → IntKind → Int → Int → Int}
  {cmp : BinOp → Int → Int → Bool}
  {scmp : BinOp → ByteArray → ByteArray → Bool}
  {bnot : Bool → Bool}
  {bsame : Bool → Bool → Bool}
  {conv : IntKind → Int → Int}
  {neg : IntKind → Int → Int}
  {imax : Int → Int → Int}
  {imin : Int → Int → Int}
  {ofNat : Nat → Int}
  {slen : ByteArray → Int}
  {place : Nat → Int → Nat → Nat}
  {inR : Int → Nat → Prop}
  {nz : Int → Prop}
  {geZ : Int → Prop}
  {rd : AHeap → Nat → Nat → Nat → List Value → Prop}
  {wr : AHeap → Nat → Nat → List Value → AHeap → Prop}
  {push : AHeap → Nat → List Value → AHeap}
  {next : AHeap → Nat}
  {mkOK : Int → Int → Prop}
  {nat : Int → Nat}
  {zeros : List Value → Int → List Value}
  {sadd : ByteArray → ByteArray → (ByteArray → Prop) → Prop}
  {eqAgg : TypeId → Array Value → Array Value → (Bool → Prop) → Prop}
  {cut : Nat → Int → Prop}
  {slc : TypeId → Value → Option Value → Option Value → Option Value → (Option Addr → Nat → Nat → Prop) → Prop}
  {sslc : TypeId → ByteArray → Option Value → Option Value → (ByteArray → Prop) → Prop}
  {strAt : ByteArray → Int → (Int → Prop) → Prop}
  {part : TypeId → Array Value → Nat → Value → Prop}
  {app : List TypeId → List Value → AHeap → (Option Addr → Nat → Nat → AHeap → Prop) → Prop}
  {cpy : List TypeId → List Value → AHeap → (Int → AHeap → Prop) → Prop}
  {putAt : AHeap → Nat → Nat → List Value → AHeap}
  {fresh : AHeap → AHeap}
  {lowered : AHeap → AHeap → AHeap}
  {bump : AHeap → Nat → AHeap}
  {wrote : AHeap → AHeap → Bool}
  {addN : Nat → Nat → Nat}
  {lt : Nat → Nat → Prop}
  {ne : Nat → Nat → Prop}
  {fpAll : Bool → Bool → Bool → Nat → Nat → Prop}
  {brk : (Unit → Prop) → Prop}
  (hA : AOK progU hint prims ⟨call, head, arith, cmp, scmp, bnot, bsame, conv, neg, imax, imin, ofNat, slen, place, inR, nz, geZ, rd, wr, push, next, mkOK, nat, zeros, sadd, eqAgg, cut, slc, sslc, strAt, part, app, cpy, putAt, fresh, lowered, bump, wrote, addN, lt, ne, fpAll, brk⟩)
include hA

theorem sign_loop {h : AHeap} (hlow : h.low ≤ h.next) {a : Option Addr} {n c m : Nat} (hm : m = n) (hn : n ≤ 1000000) {l : List Int} (hs : Ints h .i64 a n l) {b : Nat} (hb : h.next ≤ b) {Q : Exit → SS → Prop}
    (h0 : ∀ h', Ext h h' → b < h'.next → Own h' b 1 ((l.map sgn).map (.int .i64)) → Q (.exit 0) ⟨[(5, .slice (some ⟨b, 0, none⟩) m m)], 0, [], h'⟩) :
    ∀ (i : Int), 0 ≤ i → i ≤ n → ∀ h', Ext h h' → b < h'.next → Own h' b 1 ((fillTo (l.map sgn) n i).map (.int .i64)) → head 21 6 0 ⟨[(5, .slice (some ⟨b, 0, none⟩) m m), (16, .slice a n c), (17, .int .i64 (ofNat n)), (18, .int .i64 i)], 0, [], h'⟩ Q := by
  have hl := hs.len
  have hg : (l.map sgn).length = n := by simp [hl]
  refine countUp (fun i hi0 hin ih h' he hbn ho => ?_)
  refine hA.roundR Try.func21 r21_ok ?_; (try (conv => cbv)); repeat (refine brk_ok hA ?_; (try (conv => cbv)))
  refine br (i < n) (by rw [e_lss hA, e_ofNat hA]) (fun c => ?_) (fun c => ?_) <;> (try (conv => cbv)) <;> repeat (refine brk_ok hA ?_; (try (conv => cbv)))
  · obtain ⟨b1, o1, x, rfl, hb1, hx, hr⟩ := (hs.ext he).atI hi0 c
    have hv := at'_map sgn l hi0 (by omega)
    have hset := fill_set hg hi0 c
    have hfl := fill_len hg i (by omega)
    obtain ⟨h2, hw, ho2, hwr⟩ := ho.setInt (i := i.toNat) (by omega) (at' (l.map sgn) i)
    rw [hset] at ho2
    rw [hv, ← hx] at hw
    refine ⟨b1, o1, rfl, in_ok hA hi0 c, ?_⟩
    ((try (conv => cbv)); repeat (refine brk_ok hA ?_; (try (conv => cbv))))
    refine ⟨_, rd_ok hA hr, ?_⟩
    ((try (conv => cbv)); repeat (refine brk_ok hA ?_; (try (conv => cbv))))
    refine br (x < 0) (e_lss hA _ _) (fun c2 => ?_) (fun c2 => ?_) <;> (try (conv => cbv)) <;> repeat (refine brk_ok hA ?_; (try (conv => cbv)))
    · refine ⟨b, 0, rfl, in_ok hA hi0 (by omega), ?_⟩
      ((try (conv => cbv)); repeat (refine brk_ok hA ?_; (try (conv => cbv))))
      refine ⟨h2, wr_ok hA ?_, ?_⟩
      · rw [Nat.zero_add, Nat.mul_one]; unfold sgn at hw; rw [if_pos c2] at hw; exact hw
      ((try (conv => cbv)); repeat (refine brk_ok hA ?_; (try (conv => cbv))))
      rw [add64 hA (by omega) (by omega)]
      exact ih c h2 (hwr.ext he hb) (by rw [hwr.next]; exact hbn) ho2
    refine br (0 < x) (e_gtr hA _ _) (fun c3 => ?_) (fun c3 => ?_) <;> (try (conv => cbv)) <;> repeat (refine brk_ok hA ?_; (try (conv => cbv)))
    · refine ⟨b, 0, rfl, in_ok hA hi0 (by omega), ?_⟩
      ((try (conv => cbv)); repeat (refine brk_ok hA ?_; (try (conv => cbv))))
      refine ⟨h2, wr_ok hA ?_, ?_⟩
      · rw [Nat.zero_add, Nat.mul_one]; unfold sgn at hw; rw [if_neg c2, if_pos c3] at hw; exact hw
      ((try (conv => cbv)); repeat (refine brk_ok hA ?_; (try (conv => cbv))))
      rw [add64 hA (by omega) (by omega)]
      exact ih c h2 (hwr.ext he hb) (by rw [hwr.next]; exact hbn) ho2
    · rw [add64 hA (by omega) (by omega)]
      refine ih c h' he hbn ?_
      rw [← fill_skip hg hi0 c (by rw [hv, ← hx]; unfold sgn; rw [if_neg c2, if_neg c3])]
      exact ho
  · rw [fill_end hg (by omega)] at ho
    exact h0 h' he hbn ho

theorem sign_ok {h : AHeap} (hlow : h.low ≤ h.next) {a : Option Addr} {n c : Nat} (hn : n ≤ 1000000) {l : List Int} (hs : Ints h .i64 a n l) {Q : Value → AHeap → Prop}
    (hQ : ∀ e a' n' c' h', e = checkF l → Ext h h' → Ints h' .i64 a' n' (if e = 0 then l.map sgn else []) → Q (.tuple #[.slice a' n' c', .int .i64 e]) h') : call 21 [.slice a n c] h Q := by
  have hl := hs.len
  refine hA.bodyR Try.func21 r21_ok (show prims _ _ _ = none from rfl) hlow ?_; (try (conv => cbv)); repeat (refine brk_ok hA ?_; (try (conv => cbv)))
  refine check_ok hA hlow hn hs (fun e he => ⟨_, rfl, ?_⟩)
  ((try (conv => cbv)); repeat (refine brk_ok hA ?_; (try (conv => cbv))))
  refine br (e ≠ 0) (e_neq hA _ _) (fun c => ?_) (fun c => ?_) <;> (try (conv => cbv)) <;> repeat (refine brk_ok hA ?_; (try (conv => cbv)))
  · exact hQ e _ _ _ _ he (.refl _) (by rw [if_neg c]; exact .nil _ _)
  · have c : e = 0 := Classical.not_not.1 c
    refine ⟨mk_ok hA (by rw [e_ofNat hA]; omega) (by omega) (by rw [e_ofNat hA]; omega), ?_⟩
    ((try (conv => cbv)); repeat (refine brk_ok hA ?_; (try (conv => cbv))))
    have hz : zeros [.int .i64 0] (ofNat n) = (fillTo (l.map sgn) n 0).map (.int .i64) := by rw [e_zeros hA, copies_ints, e_ofNat hA, fill_zero]; simp
    have ho := Own.push h 1 ((fillTo (l.map sgn) n 0).map (.int .i64))
    rw [hz, e_push hA, e_next hA]
    refine sign_loop hA hlow (by rw [e_nat hA, e_ofNat hA]; simp) hn hs (Nat.le_refl _) (fun h' he2 hb2 ho2 => ?_) 0 (by omega) (by omega) _ (.push _ _ _) (by simp [AHeap.push]) ho
    ((try (conv => cbv)); repeat (refine brk_ok hA ?_; (try (conv => cbv))))
    have := hQ e (some ⟨h.next, 0, none⟩) (nat (ofNat n)) (nat (ofNat n)) h' he he2 (by rw [if_pos c]; exact ho2.ints hb2 (by rw [e_nat hA, e_ofNat hA]; simp [hl]))
    rw [c] at this
    exact this

end Go.Proofs.Ytcdoknkgbnaefaa
