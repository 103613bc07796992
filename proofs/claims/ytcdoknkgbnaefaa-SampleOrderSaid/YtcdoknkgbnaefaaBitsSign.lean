/-
  sample.Bits, Sign, fringeref13.Bits, Sign, Same, Long: what they return.
-/
import Derived.Test.YtcdoknkgbnaefaaDigit
namespace Go.Proofs.Ytcdoknkgbnaefaa
open Go.Sim
set_option linter.unusedVariables false
set_option maxRecDepth 100000

def wide (x : Int) : Bool := decide (x = -3) || decide (x = 3)
def thin (x : Int) : Bool := decide (x = -1) || decide (x = 1)
def bitsS (l : List Int) : Int := if l.any wide then 2 else if l.any thin then 1 else 0
def sgn (x : Int) : Int := if x < 0 then -1 else if 0 < x then 1 else 0

theorem T22 : SliceT Try.prog 22 3 1 := ⟨by kernel_rfl, by kernel_rfl, ⟨8, by kernel_rfl, by omega⟩, ⟨.int .i64 0, by kernel_rfl, rfl⟩⟩

theorem bits_cnt (l : List Int) (hg : l.all good = true) : bitsS l = if 0 < cntF 1 l + cntF 4 l then 2 else if cntF 0 l < l.length then 1 else 0 := by
  induction l with
  | nil => simp [bitsS, cntF]
  | cons x l ih =>
    simp only [List.all_cons, Bool.and_eq_true] at hg
    have ih := ih hg.2
    have hx : 0 ≤ digitF x := by have := hg.1; simpa [good] using this
    have hc : ∀ d, cntF d (x :: l) = cntF d l + if digitF x = d then 1 else 0 := by
      intro d; unfold cntF; rw [List.countP_cons]
      by_cases e : digitF x = d <;> simp [e]
    have hb : ∀ d, 0 ≤ cntF d l ∧ cntF d l ≤ l.length := by
      intro d; unfold cntF
      have := List.countP_le_length (p := fun x => decide (digitF x = d)) (l := l)
      omega
    have b0 := hb 0; have b1 := hb 1; have b4 := hb 4
    rw [hc, hc, hc]
    simp only [List.length_cons]
    unfold bitsS at ih ⊢
    simp only [List.any_cons]
    have hcase : x = 0 ∨ x = -3 ∨ x = -1 ∨ x = 1 ∨ x = 3 := by
      unfold digitF at hx
      by_cases h0 : x = 0; · exact .inl h0
      by_cases h1 : x = -3; · exact .inr (.inl h1)
      by_cases h2 : x = -1; · exact .inr (.inr (.inl h2))
      by_cases h3 : x = 1; · exact .inr (.inr (.inr (.inl h3)))
      by_cases h4 : x = 3; · exact .inr (.inr (.inr (.inr h4)))
      simp [h0, h1, h2, h3, h4] at hx
    have ih2 : (l.any wide = true ↔ 0 < cntF 1 l + cntF 4 l) := by
      constructor
      · intro h; rw [if_pos h] at ih; split at ih; · assumption
        split at ih <;> omega
      · intro h; rw [if_pos h] at ih; split at ih; · assumption
        split at ih <;> omega
    rcases hcase with rfl | rfl | rfl | rfl | rfl
    · simp [digitF, wide, thin] at ih ⊢
      rw [ih]
    all_goals simp [digitF, wide, thin]
    all_goals (repeat' split) <;> first | omega | (rename_i h; simp_all [wide]; done) | (rename_i h; simp_all [wide]; omega) | (simp_all [wide]; omega)

variable {call : FuncId → List Value → AHeap → (Value → AHeap → Prop) → Prop}
  {head : FuncId → Nat → Nat → SS → (Exit → SS → Prop) → Prop}
  {arith : BinOp → IntKind → Int → Int → Int}
  {cmp : BinOp → Int → Int → Bool}
  {scmp : BinOp → ByteArray → ByteArray → Bool}
  {bnot : Bool → Bool}
  {bsame : Bool → Bool → Bool}
  {conv : IntKind → Int → Int}
  {neg : IntKind → Int → Int}
  {imax : Int → Int → Int}
  {imin : Int → Int → Int}
  {ofNat : Nat → Int}
  {slen : ByteArray → Int}
  {place : Nat → Int → Nat → Nat}
  {inR : Int → Nat → Prop}
  {nz : Int → Prop}
  {geZ : Int → Prop}
  {rd : AHeap → Nat → Nat → Nat → List Value → Prop}
  {wr : AHeap → Nat → Nat → List Value → AHeap → Prop}
  {push : AHeap → Nat → List Value → AHeap}
  {next : AHeap → Nat}
  {mkOK : Int → Int → Prop}
  {nat : Int → Nat}
  {zeros : List Value → Int → List Value}
  {sadd : ByteArray → ByteArray → (ByteArray → Prop) → Prop}
  {eqAgg : TypeId → Array Value → Array Value → (Bool → Prop) → Prop}
  {cut : Nat → Int → Prop}
  {slc : TypeId → Value → Option Value → Option Value → Option Value → (Option Addr → Nat → Nat → Prop) → Prop}
  {sslc : TypeId → ByteArray → Option Value → Option Value → (ByteArray → Prop) → Prop}
  {strAt : ByteArray → Int → (Int → Prop) → Prop}
  {part : TypeId → Array Value → Nat → Value → Prop}
  {app : List TypeId → List Value → AHeap → (Option Addr → Nat → Nat → AHeap → Prop) → Prop}
  {cpy : List TypeId → List Value → AHeap → (Int → AHeap → Prop) → Prop}
  {putAt : AHeap → Nat → Nat → List Value → AHeap}
  {fresh : AHeap → AHeap}
  {lowered : AHeap → AHeap → AHeap}
  {bump : AHeap → Nat → AHeap}
  {wrote : AHeap → AHeap → Bool}
  {addN : Nat → Nat → Nat}
  {lt : Nat → Nat → Prop}
  {ne : Nat → Nat → Prop}
  {fpAll : Bool → Bool → Bool → Nat → Nat → Prop}
  {brk : (Unit → Prop) → Prop}
  (hA : AOK progU hint prims ⟨call, head, arith, cmp, scmp, bnot, bsame, conv, neg, imax, imin, ofNat, slen, place, inR, nz, geZ, rd, wr, push, next, mkOK, nat, zeros, sadd, eqAgg, cut, slc, sslc, strAt, part, app, cpy, putAt, fresh, lowered, bump, wrote, addN, lt, ne, fpAll, brk⟩)
include hA

theorem long_ok {h : AHeap} (hlow : h.low ≤ h.next) {a : Option Addr} {n c : Nat} {Q : Value → AHeap → Prop} (hQ : ∀ r, r = decide (300 < (n : Int)) → Q (.bool r) h) : call 10 [.slice a n c] h Q := by
  refine hA.bodyR Try.func10 r10_ok (show prims _ _ _ = none from rfl) hlow ?_; (try (conv => cbv)); repeat (refine brk_ok hA ?_; (try (conv => cbv)))
  exact hQ _ (by rw [e_gtr hA, e_ofNat hA])

theorem same_loop {h : AHeap} (hlow : h.low ≤ h.next) {a a2 : Option Addr} {n c c2 : Nat} (hn : n ≤ 1000000) {l l2 : List Int} (hs : Ints h .i64 a n l) (hs2 : Ints h .i64 a2 n l2) {Q : Exit → SS → Prop}
    (h0 : l = l2 → ∀ h', Ext h h' → Q (.exit 0) ⟨[], 0, [], h'⟩) (h1 : ∀ e K kn h', l ≠ l2 → Ext h h' → Q .ret ⟨(4, .bool false) :: e, kn, K, h'⟩) :
    ∀ (i : Int), 0 ≤ i → i ≤ n → l.take i.toNat = l2.take i.toNat → ∀ h', Ext h h' → head 16 4 0 ⟨[(0, .slice a n c), (1, .slice a2 n c2), (5, .int .i64 i)], 0, [], h'⟩ Q := by
  have hl := hs.len
  have hl2 := hs2.len
  refine countUp (fun i hi0 hin ih hj h' he => ?_)
  refine hA.roundR Try.func16 r16_ok ?_; (try (conv => cbv)); repeat (refine brk_ok hA ?_; (try (conv => cbv)))
  refine br (i < n) (by rw [e_lss hA, e_ofNat hA]) (fun c => ?_) (fun c => ?_) <;> (try (conv => cbv)) <;> repeat (refine brk_ok hA ?_; (try (conv => cbv)))
  · obtain ⟨b, o, x, rfl, hb, hx, hr⟩ := (hs.ext he).atI hi0 c
    obtain ⟨b2, o2, x2, rfl, hb2, hx2, hr2⟩ := (hs2.ext he).atI hi0 c
    have ht := take_succ' l hi0 (by omega)
    have ht2 := take_succ' l2 hi0 (by omega)
    refine ⟨b, o, rfl, in_ok hA hi0 c, ?_⟩
    ((try (conv => cbv)); repeat (refine brk_ok hA ?_; (try (conv => cbv))))
    refine ⟨_, rd_ok hA (by rw [e_bump hA]; exact hr), ?_⟩
    ((try (conv => cbv)); repeat (refine brk_ok hA ?_; (try (conv => cbv))))
    refine ⟨b2, o2, rfl, in_ok hA hi0 c, ?_⟩
    ((try (conv => cbv)); repeat (refine brk_ok hA ?_; (try (conv => cbv))))
    refine ⟨_, rd_ok hA (by rw [e_bump hA]; exact hr2), ?_⟩
    ((try (conv => cbv)); repeat (refine brk_ok hA ?_; (try (conv => cbv))))
    have he2 : Ext h (bump h' 9) := by rw [e_bump hA]; exact he.trans (.bump _ _)
    refine br (x ≠ x2) (e_neq hA _ _) (fun c2 => ?_) (fun c2 => ?_) <;> (try (conv => cbv)) <;> repeat (refine brk_ok hA ?_; (try (conv => cbv)))
    · refine h1 _ _ _ _ (fun e => c2 ?_) he2
      rw [hx, hx2, e]
    · rw [add64 hA (by omega) (by omega)]
      refine ih c ?_ _ he2
      have : x = x2 := Classical.not_not.1 c2
      rw [ht, ht2, hj, ← hx, ← hx2, this]
  · ((try (conv => cbv)); repeat (refine brk_ok hA ?_; (try (conv => cbv))))
    rw [List.take_of_length_le (by omega), List.take_of_length_le (by omega)] at hj
    exact h0 hj h' he

theorem same_ok {h : AHeap} (hlow : h.low ≤ h.next) {a a2 : Option Addr} {n n2 c c2 : Nat} (hn : n ≤ 1000000) {l l2 : List Int} (hs : Ints h .i64 a n l) (hs2 : Ints h .i64 a2 n2 l2) {Q : Value → AHeap → Prop}
    (hQ : ∀ r, r = decide (l = l2) → ∀ h', Ext h h' → Q (.bool r) h') : call 16 [.slice a n c, .slice a2 n2 c2] h Q := by
  have hl := hs.len
  have hl2 := hs2.len
  refine hA.bodyR Try.func16 r16_ok (show prims _ _ _ = none from rfl) hlow ?_; (try (conv => cbv)); repeat (refine brk_ok hA ?_; (try (conv => cbv)))
  refine br ((n : Int) ≠ n2) (by rw [e_neq hA, e_ofNat hA, e_ofNat hA]) (fun c => ?_) (fun c => ?_) <;> (try (conv => cbv)) <;> repeat (refine brk_ok hA ?_; (try (conv => cbv)))
  · refine hQ _ ?_ _ (.refl _)
    have : ¬ l = l2 := fun e => c (by rw [← hl, ← hl2, e])
    simp [this]
  · have e : n = n2 := by omega
    subst e
    refine same_loop hA hlow hn hs hs2 (fun e h' he => ?_) (fun e K kn h' hne he => ?_) 0 (by omega) (by omega) (by simp) _ (.refl _)
    · ((try (conv => cbv)); repeat (refine brk_ok hA ?_; (try (conv => cbv))))
      exact hQ _ (by simp [e]) _ he
    · ((try (conv => cbv)); repeat (refine brk_ok hA ?_; (try (conv => cbv))))
      exact hQ _ (by simp [hne]) _ he

theorem bits_loop {h : AHeap} (hlow : h.low ≤ h.next) {a : Option Addr} {n c : Nat} (hn : n ≤ 1000000) {l : List Int} (hs : Ints h .i64 a n l) {Q : Exit → SS → Prop}
    (h0 : ∀ r, r = bitsS l → Q (.exit 0) ⟨[(5, .int .i64 r)], 0, [], h⟩) :
    ∀ (i : Int), 0 ≤ i → i ≤ n → ∀ m, m = bitsS (l.take i.toNat) → head 17 6 0 ⟨[(5, .int .i64 m), (13, .slice a n c), (14, .int .i64 (ofNat n)), (15, .int .i64 i)], 0, [], h⟩ Q := by
  have hl := hs.len
  refine countUp (fun i hi0 hin ih m hm => ?_)
  refine hA.roundR Try.func17 r17_ok ?_; (try (conv => cbv)); repeat (refine brk_ok hA ?_; (try (conv => cbv)))
  refine br (i < n) (by rw [e_lss hA, e_ofNat hA]) (fun c => ?_) (fun c => ?_) <;> (try (conv => cbv)) <;> repeat (refine brk_ok hA ?_; (try (conv => cbv)))
  · obtain ⟨b, o, x, rfl, hb, hx, hr⟩ := hs.atI hi0 c
    have ht := take_succ' l hi0 (by omega)
    have step : ∀ m', m' = (if wide x then 2 else if thin x then max m 1 else m) → m' = bitsS (l.take (i + 1).toNat) := by
      intro m' hm'
      rw [hm', ht, hm, ← hx]
      unfold bitsS
      simp only [List.any_append, List.any_cons, List.any_nil, Bool.or_false]
      cases hw : wide x <;> cases htn : thin x <;> cases h1 : (l.take i.toNat).any wide <;> cases h2 : (l.take i.toNat).any thin <;> simp <;> decide
    refine ⟨b, o, rfl, in_ok hA hi0 c, ?_⟩
    ((try (conv => cbv)); repeat (refine brk_ok hA ?_; (try (conv => cbv))))
    refine ⟨_, rd_ok hA hr, ?_⟩
    ((try (conv => cbv)); repeat (refine brk_ok hA ?_; (try (conv => cbv))))
    have k1 := e_eql hA x (-1)
    have k2 := e_eql hA x 1
    have k3 := e_eql hA x (-3)
    have k4 := e_eql hA x 3
    cases hc1 : cmp .eql x (-1) <;> ((try (conv => cbv)); repeat (refine brk_ok hA ?_; (try (conv => cbv))))
    · cases hc2 : cmp .eql x 1 <;> ((try (conv => cbv)); repeat (refine brk_ok hA ?_; (try (conv => cbv))))
      · cases hc3 : cmp .eql x (-3) <;> ((try (conv => cbv)); repeat (refine brk_ok hA ?_; (try (conv => cbv))))
        · cases hc4 : cmp .eql x 3 <;> ((try (conv => cbv)); repeat (refine brk_ok hA ?_; (try (conv => cbv))))
          · rw [add64 hA (by omega) (by omega)]
            refine ih c _ (step _ ?_)
            rw [hc1] at k1; rw [hc2] at k2; rw [hc3] at k3; rw [hc4] at k4
            simp [wide, thin, ← k1, ← k2, ← k3, ← k4]
          · rw [add64 hA (by omega) (by omega)]
            refine ih c _ (step _ ?_)
            rw [hc4] at k4
            simp [wide, ← k4]
        · rw [add64 hA (by omega) (by omega)]
          refine ih c _ (step _ ?_)
          rw [hc3] at k3
          simp [wide, ← k3]
      · rw [add64 hA (by omega) (by omega)]
        refine ih c _ (step _ ?_)
        rw [hc2] at k2
        have c3 : x = 1 := of_decide_eq_true k2.symm
        rw [e_imax hA]; simp [wide, thin, c3]; split <;> omega
    · rw [add64 hA (by omega) (by omega)]
      refine ih c _ (step _ ?_)
      rw [hc1] at k1
      have c2 : x = -1 := of_decide_eq_true k1.symm
      rw [e_imax hA]; simp [wide, thin, c2]; split <;> omega
  · rw [List.take_of_length_le (by omega)] at hm
    exact h0 _ hm

theorem bits_ok {h : AHeap} (hlow : h.low ≤ h.next) {a : Option Addr} {n c : Nat} (hn : n ≤ 1000000) {l : List Int} (hs : Ints h .i64 a n l) {Q : Value → AHeap → Prop} (hQ : ∀ r e, e = checkF l → r = (if e = 0 then bitsS l else 0) → Q (.tuple #[.int .i64 r, .int .i64 e]) h) : call 17 [.slice a n c] h Q := by
  refine hA.bodyR Try.func17 r17_ok (show prims _ _ _ = none from rfl) hlow ?_; (try (conv => cbv)); repeat (refine brk_ok hA ?_; (try (conv => cbv)))
  refine check_ok hA hlow hn hs (fun e he => ⟨_, rfl, ?_⟩)
  ((try (conv => cbv)); repeat (refine brk_ok hA ?_; (try (conv => cbv))))
  refine br (e ≠ 0) (e_neq hA _ _) (fun c => ?_) (fun c => ?_) <;> (try (conv => cbv)) <;> repeat (refine brk_ok hA ?_; (try (conv => cbv)))
  · exact hQ _ _ he (by rw [if_neg c])
  · have c : e = 0 := Classical.not_not.1 c
    refine bits_loop hA hlow hn hs (fun r hr => ?_) 0 (by omega) (by omega) 0 (by simp [bitsS])
    ((try (conv => cbv)); repeat (refine brk_ok hA ?_; (try (conv => cbv))))
    have := hQ r e he (by rw [if_pos c]; exact hr)
    rw [c] at this
    exact this

theorem rbits_ok {h : AHeap} (hlow : h.low ≤ h.next) {a : Option Addr} {n c : Nat} (hn : n ≤ 1000000) {l : List Int} (hs : Ints h .i64 a n l) {Q : Value → AHeap → Prop} (hQ : ∀ r e, e = checkF l → r = (if e = 0 then bitsS l else 0) → Q (.tuple #[.int .i64 r, .int .i64 e]) h) : call 18 [.slice a n c] h Q := by
  have hl := hs.len
  refine hA.bodyR Try.func18 r18_ok (show prims _ _ _ = none from rfl) hlow ?_; (try (conv => cbv)); repeat (refine brk_ok hA ?_; (try (conv => cbv)))
  refine rcheck_ok hA hlow hn hs (fun e he => ⟨_, rfl, ?_⟩)
  ((try (conv => cbv)); repeat (refine brk_ok hA ?_; (try (conv => cbv))))
  refine br (e ≠ 0) (e_neq hA _ _) (fun c => ?_) (fun c => ?_) <;> (try (conv => cbv)) <;> repeat (refine brk_ok hA ?_; (try (conv => cbv)))
  · refine rcheck_ok hA hlow hn hs (fun e2 he2 => ⟨_, rfl, ?_⟩)
    ((try (conv => cbv)); repeat (refine brk_ok hA ?_; (try (conv => cbv))))
    have : e2 = e := by rw [he, he2]
    rw [this]
    exact hQ _ _ he (by rw [if_neg c])
  · have c : e = 0 := Classical.not_not.1 c
    have hg : l.all good = true := by
      rw [he] at c; unfold checkF at c
      split at c
      · omega
      · split at c
        · assumption
        · omega
    have hb := bits_cnt l hg
    have hq := fun r => hQ r e he
    rw [c] at hq
    simp only [if_true] at hq
    have hcb : ∀ d, 0 ≤ cntF d l ∧ cntF d l ≤ l.length := by
      intro d; unfold cntF
      have := List.countP_le_length (p := fun x => decide (digitF x = d)) (l := l)
      omega
    have b0 := hcb 0; have b1 := hcb 1; have b4 := hcb 4
    refine count_ok hA hlow hn hs 1 (fun r1 hr1 => ⟨_, rfl, ?_⟩)
    ((try (conv => cbv)); repeat (refine brk_ok hA ?_; (try (conv => cbv))))
    refine count_ok hA hlow hn hs 4 (fun r4 hr4 => ⟨_, rfl, ?_⟩)
    ((try (conv => cbv)); repeat (refine brk_ok hA ?_; (try (conv => cbv))))
    refine br (0 < r1 + r4) (by rw [e_gtr hA, add64 hA (by omega) (by omega)]) (fun c => ?_) (fun c => ?_) <;> (try (conv => cbv)) <;> repeat (refine brk_ok hA ?_; (try (conv => cbv)))
    · exact hq _ (by rw [hb, if_pos (by omega)])
    refine count_ok hA hlow hn hs 0 (fun r0 hr0 => ⟨_, rfl, ?_⟩)
    ((try (conv => cbv)); repeat (refine brk_ok hA ?_; (try (conv => cbv))))
    refine br (r0 < n) (by rw [e_lss hA, e_ofNat hA]) (fun c => ?_) (fun c => ?_) <;> (try (conv => cbv)) <;> repeat (refine brk_ok hA ?_; (try (conv => cbv)))
    · exact hq _ (by rw [hb, if_neg (by omega), if_pos (by omega)])
    · exact hq _ (by rw [hb, if_neg (by omega), if_neg (by omega)])

end Go.Proofs.Ytcdoknkgbnaefaa
