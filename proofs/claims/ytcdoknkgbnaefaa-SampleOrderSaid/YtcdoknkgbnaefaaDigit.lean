/-
  sample.digit, fringeref13.Digit, sample.Check, fringeref13.Check, fringeref13.count: what they return.
-/
import Derived.Test.YtcdoknkgbnaefaaSymFacts
namespace Go.Proofs.Ytcdoknkgbnaefaa
open Go.Sim
set_option linter.unusedVariables false
set_option maxRecDepth 100000

def digitF (x : Int) : Int := if x = 0 then 0 else if x = -3 then 1 else if x = -1 then 2 else if x = 1 then 3 else if x = 3 then 4 else -1
def good (x : Int) : Bool := decide (0 ≤ digitF x)
def checkF (l : List Int) : Int := if 256 < (l.length : Int) then 4 else if l.all good then 0 else 8
def cntF (d : Int) (l : List Int) : Int := (l.countP (fun x => decide (digitF x = d)) : Nat)

theorem digitF_le (x : Int) : -1 ≤ digitF x ∧ digitF x ≤ 4 := by unfold digitF; constructor <;> (repeat' split) <;> omega

variable {call : FuncId → List Value → AHeap → (Value → AHeap → Prop) → Prop}
  {head : FuncId → Nat → Nat → SS → (Exit → SS → Prop) → Prop}
  {arith : BinOp → IntKind → Int → Int → Int}
  {cmp : BinOp → Int → Int → Bool}
  {scmp : BinOp → ByteArray → ByteArray → Bool}
  {bnot : Bool → Bool}
  {bsame : Bool → Bool → Bool}
  {conv : IntKind → Int → Int}
  {neg : IntKind → Int → Int}
  {imax : Int → Int → Int}
  {imin : Int → Int → Int}
  {ofNat : Nat → Int}
  {slen : ByteArray → Int}
  {place : Nat → Int → Nat → Nat}
  {inR : Int → Nat → Prop}
  {nz : Int → Prop}
  {geZ : Int → Prop}
  {rd : AHeap → Nat → Nat → Nat → List Value → Prop}
  {wr : AHeap → Nat → Nat → List Value → AHeap → Prop}
  {push : AHeap → Nat → List Value → AHeap}
  {next : AHeap → Nat}
  {mkOK : Int → Int → Prop}
  {nat : Int → Nat}
  {zeros : List Value → Int → List Value}
  {sadd : ByteArray → ByteArray → (ByteArray → Prop) → Prop}
  {eqAgg : TypeId → Array Value → Array Value → (Bool → Prop) → Prop}
  {cut : Nat → Int → Prop}
  {slc : TypeId → Value → Option Value → Option Value → Option Value → (Option Addr → Nat → Nat → Prop) → Prop}
  {sslc : TypeId → ByteArray → Option Value → Option Value → (ByteArray → Prop) → Prop}
  {strAt : ByteArray → Int → (Int → Prop) → Prop}
  {part : TypeId → Array Value → Nat → Value → Prop}
  {app : List TypeId → List Value → AHeap → (Option Addr → Nat → Nat → AHeap → Prop) → Prop}
  {cpy : List TypeId → List Value → AHeap → (Int → AHeap → Prop) → Prop}
  {putAt : AHeap → Nat → Nat → List Value → AHeap}
  {fresh : AHeap → AHeap}
  {lowered : AHeap → AHeap → AHeap}
  {bump : AHeap → Nat → AHeap}
  {wrote : AHeap → AHeap → Bool}
  {addN : Nat → Nat → Nat}
  {lt : Nat → Nat → Prop}
  {ne : Nat → Nat → Prop}
  {fpAll : Bool → Bool → Bool → Nat → Nat → Prop}
  {brk : (Unit → Prop) → Prop}
  (hA : AOK progU hint prims ⟨call, head, arith, cmp, scmp, bnot, bsame, conv, neg, imax, imin, ofNat, slen, place, inR, nz, geZ, rd, wr, push, next, mkOK, nat, zeros, sadd, eqAgg, cut, slc, sslc, strAt, part, app, cpy, putAt, fresh, lowered, bump, wrote, addN, lt, ne, fpAll, brk⟩)
include hA

theorem digit_ok (x : Int) {h : AHeap} (hlow : h.low ≤ h.next) {Q : Value → AHeap → Prop} (hQ : ∀ r, r = digitF x → Q (.int .i64 r) h) : call 36 [.int .i64 x] h Q := by
  have hQ := hQ _ rfl
  refine hA.bodyR Try.func36 r36_ok (show prims _ _ _ = none from rfl) hlow ?_; (try (conv => cbv)); repeat (refine brk_ok hA ?_; (try (conv => cbv)))
  unfold digitF at hQ
  refine br (x = 0) (e_eql hA _ _) (fun c => ?_) (fun c => ?_) <;> (try (conv => cbv)) <;> repeat (refine brk_ok hA ?_; (try (conv => cbv)))
  · rw [if_pos c] at hQ; exact hQ
  rw [if_neg c] at hQ
  refine br (x = -3) (e_eql hA _ _) (fun c => ?_) (fun c => ?_) <;> (try (conv => cbv)) <;> repeat (refine brk_ok hA ?_; (try (conv => cbv)))
  · rw [if_pos c] at hQ; exact hQ
  rw [if_neg c] at hQ
  refine br (x = -1) (e_eql hA _ _) (fun c => ?_) (fun c => ?_) <;> (try (conv => cbv)) <;> repeat (refine brk_ok hA ?_; (try (conv => cbv)))
  · rw [if_pos c] at hQ; exact hQ
  rw [if_neg c] at hQ
  refine br (x = 1) (e_eql hA _ _) (fun c => ?_) (fun c => ?_) <;> (try (conv => cbv)) <;> repeat (refine brk_ok hA ?_; (try (conv => cbv)))
  · rw [if_pos c] at hQ; exact hQ
  rw [if_neg c] at hQ
  refine br (x = 3) (e_eql hA _ _) (fun c => ?_) (fun c => ?_) <;> (try (conv => cbv)) <;> repeat (refine brk_ok hA ?_; (try (conv => cbv)))
  · rw [if_pos c] at hQ; exact hQ
  rw [if_neg c] at hQ
  exact hQ

theorem rdigit_ok (x : Int) {h : AHeap} (hlow : h.low ≤ h.next) {Q : Value → AHeap → Prop} (hQ : ∀ r, r = digitF x → Q (.int .i64 r) h) : call 37 [.int .i64 x] h Q := by
  have hQ := hQ _ rfl
  refine hA.bodyR Try.func37 r37_ok (show prims _ _ _ = none from rfl) hlow ?_; (try (conv => cbv)); repeat (refine brk_ok hA ?_; (try (conv => cbv)))
  unfold digitF at hQ
  refine br (x = 0) (e_eql hA _ _) (fun c => ?_) (fun c => ?_) <;> (try (conv => cbv)) <;> repeat (refine brk_ok hA ?_; (try (conv => cbv)))
  · rw [if_pos c] at hQ; exact hQ
  rw [if_neg c] at hQ
  refine br (x = -3) (e_eql hA _ _) (fun c => ?_) (fun c => ?_) <;> (try (conv => cbv)) <;> repeat (refine brk_ok hA ?_; (try (conv => cbv)))
  · rw [if_pos c] at hQ; exact hQ
  rw [if_neg c] at hQ
  refine br (x = -1) (e_eql hA _ _) (fun c => ?_) (fun c => ?_) <;> (try (conv => cbv)) <;> repeat (refine brk_ok hA ?_; (try (conv => cbv)))
  · rw [if_pos c] at hQ; exact hQ
  rw [if_neg c] at hQ
  refine br (x = 1) (e_eql hA _ _) (fun c => ?_) (fun c => ?_) <;> (try (conv => cbv)) <;> repeat (refine brk_ok hA ?_; (try (conv => cbv)))
  · rw [if_pos c] at hQ; exact hQ
  rw [if_neg c] at hQ
  refine br (x = 3) (e_eql hA _ _) (fun c => ?_) (fun c => ?_) <;> (try (conv => cbv)) <;> repeat (refine brk_ok hA ?_; (try (conv => cbv)))
  · rw [if_pos c] at hQ; exact hQ
  rw [if_neg c] at hQ
  exact hQ

theorem check_loop {h : AHeap} (hlow : h.low ≤ h.next) {a : Option Addr} {n c : Nat} (hn : n ≤ 1000000) {l : List Int} (hs : Ints h .i64 a n l) {Q : Exit → SS → Prop}
    (h0 : l.all good = true → Q (.exit 0) ⟨[], 0, [], h⟩) (h1 : ∀ e, l.all good = false → Q .ret ⟨(2, .int .i64 8) :: e, 0, [], h⟩) :
    ∀ (i : Int), 0 ≤ i → i ≤ n → (l.take i.toNat).all good = true → head 23 4 0 ⟨[(8, .slice a n c), (9, .int .i64 (ofNat n)), (10, .int .i64 i)], 0, [], h⟩ Q := by
  have hl := hs.len
  refine countUp (fun i hi0 hin ih hj => ?_)
  refine hA.roundR Try.func23 r23_ok ?_; (try (conv => cbv)); repeat (refine brk_ok hA ?_; (try (conv => cbv)))
  refine br (i < n) (by rw [e_lss hA, e_ofNat hA]) (fun c => ?_) (fun c => ?_) <;> (try (conv => cbv)) <;> repeat (refine brk_ok hA ?_; (try (conv => cbv)))
  · obtain ⟨b, o, x, rfl, hb, hx, hr⟩ := hs.atI hi0 c
    have ht := take_succ' l hi0 (by omega)
    refine ⟨b, o, rfl, in_ok hA hi0 c, ?_⟩
    ((try (conv => cbv)); repeat (refine brk_ok hA ?_; (try (conv => cbv))))
    refine ⟨_, rd_ok hA hr, ?_⟩
    ((try (conv => cbv)); repeat (refine brk_ok hA ?_; (try (conv => cbv))))
    refine digit_ok hA _ hlow (fun r hd => ?_)
    refine ⟨_, rfl, ?_⟩
    ((try (conv => cbv)); repeat (refine brk_ok hA ?_; (try (conv => cbv))))
    refine br (r < 0) (e_lss hA _ _) (fun c2 => ?_) (fun c2 => ?_) <;> (try (conv => cbv)) <;> repeat (refine brk_ok hA ?_; (try (conv => cbv)))
    · ((try (conv => cbv)); repeat (refine brk_ok hA ?_; (try (conv => cbv))))
      refine h1 _ ?_
      rw [List.all_eq_false]
      refine ⟨at' l i, ?_, ?_⟩
      · exact at'_mem l hi0 (by omega)
      · rw [← hx]; unfold good; rw [← hd]; simp; omega
    · ((try (conv => cbv)); repeat (refine brk_ok hA ?_; (try (conv => cbv))))
      rw [add64 hA (by omega) (by omega)]
      refine ih c ?_
      rw [ht, List.all_append, hj, ← hx]
      simp [good, ← hd]; omega
  · ((try (conv => cbv)); repeat (refine brk_ok hA ?_; (try (conv => cbv))))
    refine h0 ?_
    rw [List.take_of_length_le (by omega)] at hj
    exact hj

theorem check_ok {h : AHeap} (hlow : h.low ≤ h.next) {a : Option Addr} {n c : Nat} (hn : n ≤ 1000000) {l : List Int} (hs : Ints h .i64 a n l) {Q : Value → AHeap → Prop} (hQ : ∀ r, r = checkF l → Q (.int .i64 r) h) : call 23 [.slice a n c] h Q := by
  have hl := hs.len
  have hQ := hQ _ rfl
  unfold checkF at hQ
  refine hA.bodyR Try.func23 r23_ok (show prims _ _ _ = none from rfl) hlow ?_; (try (conv => cbv)); repeat (refine brk_ok hA ?_; (try (conv => cbv)))
  refine br (256 < (n : Int)) (by rw [e_gtr hA, e_ofNat hA]) (fun c => ?_) (fun c => ?_) <;> (try (conv => cbv)) <;> repeat (refine brk_ok hA ?_; (try (conv => cbv)))
  · rw [if_pos (by omega)] at hQ; exact hQ
  rw [if_neg (by omega)] at hQ
  refine check_loop hA hlow hn hs (fun e => ?_) (fun e e2 => ?_) 0 (by omega) (by omega) (by simp)
  · ((try (conv => cbv)); repeat (refine brk_ok hA ?_; (try (conv => cbv))))
    rw [if_pos e] at hQ; exact hQ
  · ((try (conv => cbv)); repeat (refine brk_ok hA ?_; (try (conv => cbv))))
    rw [if_neg (by simp [e2])] at hQ; exact hQ

theorem rcheck_loop {h : AHeap} (hlow : h.low ≤ h.next) {a : Option Addr} {n c : Nat} (hn : n ≤ 1000000) {l : List Int} (hs : Ints h .i64 a n l) {Q : Exit → SS → Prop}
    (h0 : l.all good = true → Q (.exit 0) ⟨[], 0, [], h⟩) (h1 : ∀ e, l.all good = false → Q .ret ⟨(2, .int .i64 8) :: e, 0, [], h⟩) :
    ∀ (i : Int), 0 ≤ i → i ≤ n → (l.take i.toNat).all good = true → head 24 4 0 ⟨[(0, .slice a n c), (3, .int .i64 i)], 0, [], h⟩ Q := by
  have hl := hs.len
  refine countUp (fun i hi0 hin ih hj => ?_)
  refine hA.roundR Try.func24 r24_ok ?_; (try (conv => cbv)); repeat (refine brk_ok hA ?_; (try (conv => cbv)))
  refine br (i < n) (by rw [e_lss hA, e_ofNat hA]) (fun c => ?_) (fun c => ?_) <;> (try (conv => cbv)) <;> repeat (refine brk_ok hA ?_; (try (conv => cbv)))
  · obtain ⟨b, o, x, rfl, hb, hx, hr⟩ := hs.atI hi0 c
    have ht := take_succ' l hi0 (by omega)
    refine ⟨b, o, rfl, in_ok hA hi0 c, ?_⟩
    ((try (conv => cbv)); repeat (refine brk_ok hA ?_; (try (conv => cbv))))
    refine ⟨_, rd_ok hA hr, ?_⟩
    ((try (conv => cbv)); repeat (refine brk_ok hA ?_; (try (conv => cbv))))
    refine rdigit_ok hA _ hlow (fun r hd => ?_)
    refine ⟨_, rfl, ?_⟩
    ((try (conv => cbv)); repeat (refine brk_ok hA ?_; (try (conv => cbv))))
    refine br (r < 0) (e_lss hA _ _) (fun c2 => ?_) (fun c2 => ?_) <;> (try (conv => cbv)) <;> repeat (refine brk_ok hA ?_; (try (conv => cbv)))
    · ((try (conv => cbv)); repeat (refine brk_ok hA ?_; (try (conv => cbv))))
      refine h1 _ ?_
      rw [List.all_eq_false]
      refine ⟨at' l i, ?_, ?_⟩
      · exact at'_mem l hi0 (by omega)
      · rw [← hx]; unfold good; rw [← hd]; simp; omega
    · ((try (conv => cbv)); repeat (refine brk_ok hA ?_; (try (conv => cbv))))
      rw [add64 hA (by omega) (by omega)]
      refine ih c ?_
      rw [ht, List.all_append, hj, ← hx]
      simp [good, ← hd]; omega
  · ((try (conv => cbv)); repeat (refine brk_ok hA ?_; (try (conv => cbv))))
    refine h0 ?_
    rw [List.take_of_length_le (by omega)] at hj
    exact hj

theorem rcheck_ok {h : AHeap} (hlow : h.low ≤ h.next) {a : Option Addr} {n c : Nat} (hn : n ≤ 1000000) {l : List Int} (hs : Ints h .i64 a n l) {Q : Value → AHeap → Prop} (hQ : ∀ r, r = checkF l → Q (.int .i64 r) h) : call 24 [.slice a n c] h Q := by
  have hl := hs.len
  have hQ := hQ _ rfl
  unfold checkF at hQ
  refine hA.bodyR Try.func24 r24_ok (show prims _ _ _ = none from rfl) hlow ?_; (try (conv => cbv)); repeat (refine brk_ok hA ?_; (try (conv => cbv)))
  refine br (256 < (n : Int)) (by rw [e_gtr hA, e_ofNat hA]) (fun c => ?_) (fun c => ?_) <;> (try (conv => cbv)) <;> repeat (refine brk_ok hA ?_; (try (conv => cbv)))
  · rw [if_pos (by omega)] at hQ; exact hQ
  rw [if_neg (by omega)] at hQ
  refine rcheck_loop hA hlow hn hs (fun e => ?_) (fun e e2 => ?_) 0 (by omega) (by omega) (by simp)
  · ((try (conv => cbv)); repeat (refine brk_ok hA ?_; (try (conv => cbv))))
    rw [if_pos e] at hQ; exact hQ
  · ((try (conv => cbv)); repeat (refine brk_ok hA ?_; (try (conv => cbv))))
    rw [if_neg (by simp [e2])] at hQ; exact hQ

theorem count_loop {h : AHeap} (hlow : h.low ≤ h.next) {a : Option Addr} {n c : Nat} (hn : n ≤ 1000000) {l : List Int} (hs : Ints h .i64 a n l) (d : Int) {Q : Exit → SS → Prop}
    (h0 : ∀ r, r = cntF d l → Q (.exit 0) ⟨[(5, .int .i64 r)], 0, [], h⟩) :
    ∀ (i : Int), 0 ≤ i → i ≤ n → ∀ m, m = cntF d (l.take i.toNat) → head 38 3 0 ⟨[(0, .slice a n c), (1, .int .i64 d), (5, .int .i64 m), (6, .int .i64 i)], 0, [], h⟩ Q := by
  have hl := hs.len
  refine countUp (fun i hi0 hin ih m hm => ?_)
  have hm1 : 0 ≤ m ∧ m ≤ i := by
    rw [hm]; unfold cntF
    have := List.countP_le_length (p := fun x => decide (digitF x = d)) (l := l.take i.toNat)
    rw [List.length_take] at this
    omega
  refine hA.roundR Try.func38 r38_ok ?_; (try (conv => cbv)); repeat (refine brk_ok hA ?_; (try (conv => cbv)))
  refine br (i < n) (by rw [e_lss hA, e_ofNat hA]) (fun c => ?_) (fun c => ?_) <;> (try (conv => cbv)) <;> repeat (refine brk_ok hA ?_; (try (conv => cbv)))
  · obtain ⟨b, o, x, rfl, hb, hx, hr⟩ := hs.atI hi0 c
    have ht := take_succ' l hi0 (by omega)
    refine ⟨b, o, rfl, in_ok hA hi0 c, ?_⟩
    ((try (conv => cbv)); repeat (refine brk_ok hA ?_; (try (conv => cbv))))
    refine ⟨_, rd_ok hA hr, ?_⟩
    ((try (conv => cbv)); repeat (refine brk_ok hA ?_; (try (conv => cbv))))
    refine rdigit_ok hA _ hlow (fun r hd => ?_)
    refine ⟨_, rfl, ?_⟩
    ((try (conv => cbv)); repeat (refine brk_ok hA ?_; (try (conv => cbv))))
    refine br (r = d) (e_eql hA _ _) (fun c2 => ?_) (fun c2 => ?_) <;> (try (conv => cbv)) <;> repeat (refine brk_ok hA ?_; (try (conv => cbv)))
    · ((try (conv => cbv)); repeat (refine brk_ok hA ?_; (try (conv => cbv))))
      rw [add64 hA (by omega) (by omega), add64 hA (by omega) (by omega)]
      refine ih c _ ?_
      rw [ht, hm]; unfold cntF
      rw [List.countP_append, ← hx]
      simp [← hd, c2]
    · ((try (conv => cbv)); repeat (refine brk_ok hA ?_; (try (conv => cbv))))
      rw [add64 hA (by omega) (by omega)]
      refine ih c _ ?_
      rw [ht, hm]; unfold cntF
      rw [List.countP_append, ← hx]
      simp [← hd, c2]
  · ((try (conv => cbv)); repeat (refine brk_ok hA ?_; (try (conv => cbv))))
    refine h0 _ ?_
    rw [List.take_of_length_le (by omega)] at hm
    exact hm

theorem count_ok {h : AHeap} (hlow : h.low ≤ h.next) {a : Option Addr} {n c : Nat} (hn : n ≤ 1000000) {l : List Int} (hs : Ints h .i64 a n l) (d : Int) {Q : Value → AHeap → Prop} (hQ : ∀ r, r = cntF d l → Q (.int .i64 r) h) : call 38 [.slice a n c, .int .i64 d] h Q := by
  refine hA.bodyR Try.func38 r38_ok (show prims _ _ _ = none from rfl) hlow ?_; (try (conv => cbv)); repeat (refine brk_ok hA ?_; (try (conv => cbv)))
  refine count_loop hA hlow hn hs d (fun r e => ?_) 0 (by omega) (by omega) 0 (by simp [cntF])
  ((try (conv => cbv)); repeat (refine brk_ok hA ?_; (try (conv => cbv))))
  exact hQ r e

end Go.Proofs.Ytcdoknkgbnaefaa
