/-
  fringeref42.Check: what it returns.
-/
import Derived.Test.YtlpnmdknlfmjaaaQCheck
namespace Go.Proofs.Ytlpnmdknlfmjaaa
open Go.Sim
set_option linter.unusedVariables false
set_option maxRecDepth 100000

variable {call : FuncId → List Value → AHeap → (Value → AHeap → Prop) → Prop}
  {head : FuncId → Nat → Nat → SS → (Exit → SS → Prop) → Prop}
  {arith : BinOp → IntKind → Int → Int → Int}
  {cmp : BinOp → Int → Int → Bool}
  {scmp : BinOp → ByteArray → ByteArray → Bool}
  {bnot : Bool → Bool}
  {bsame : Bool → Bool → Bool}
  {conv : IntKind → Int → Int}
  {neg : IntKind → Int → Int}
  {imax : Int → Int → Int}
  {imin : Int → Int → Int}
  {ofNat : Nat → Int}
  {slen : ByteArray → Int}
  {place : Nat → Int → Nat → Nat}
  {inR : Int → Nat → Prop}
  {nz : Int → Prop}
  {geZ : Int → Prop}
  {rd : AHeap → Nat → Nat → Nat → List Value → Prop}
  {wr : AHeap → Nat → Nat → List Value → AHeap → Prop}
  {push : AHeap → Nat → List Value → AHeap}
  {next : AHeap → Nat}
  {mkOK : Int → Int → Prop}
  {nat : Int → Nat}
  {zeros : List Value → Int → List Value}
  {sadd : ByteArray → ByteArray → (ByteArray → Prop) → Prop}
  {eqAgg : TypeId → Array Value → Array Value → (Bool → Prop) → Prop}
  {cut : Nat → Int → Prop}
  {slc : TypeId → Value → Option Value → Option Value → Option Value → (Option Addr → Nat → Nat → Prop) → Prop}
  {sslc : TypeId → ByteArray → Option Value → Option Value → (ByteArray → Prop) → Prop}
  {strAt : ByteArray → Int → (Int → Prop) → Prop}
  {part : TypeId → Array Value → Nat → Value → Prop}
  {app : List TypeId → List Value → AHeap → (Option Addr → Nat → Nat → AHeap → Prop) → Prop}
  {cpy : List TypeId → List Value → AHeap → (Int → AHeap → Prop) → Prop}
  {putAt : AHeap → Nat → Nat → List Value → AHeap}
  {fresh : AHeap → AHeap}
  {lowered : AHeap → AHeap → AHeap}
  {bump : AHeap → Nat → AHeap}
  {wrote : AHeap → AHeap → Bool}
  {addN : Nat → Nat → Nat}
  {lt : Nat → Nat → Prop}
  {ne : Nat → Nat → Prop}
  {fpAll : Bool → Bool → Bool → Nat → Nat → Prop}
  {brk : (Unit → Prop) → Prop}
  (hA : AOK progU hint prims ⟨call, head, arith, cmp, scmp, bnot, bsame, conv, neg, imax, imin, ofNat, slen, place, inR, nz, geZ, rd, wr, push, next, mkOK, nat, zeros, sadd, eqAgg, cut, slc, sslc, strAt, part, app, cpy, putAt, fresh, lowered, bump, wrote, addN, lt, ne, fpAll, brk⟩)
include hA

theorem rcheck_inner {h : AHeap} {a : Option Addr} {n c : Nat} (hn : n ≤ 8) {l : List Proj} (hs : Projs h a n l) {nu de : Int} {i : Int} (hi0 : 0 ≤ i) (hi1 : i < n) {Q : Exit → SS → Prop}
    (h0 : (∀ j : Int, 0 ≤ j → j < i → ¬ sameName (pj l j) (pj l i)) → ∀ h', Ext h h' → Q (.exit 2) ⟨[(1, .pointer (some ⟨0, 0, some 0⟩)), (3, .int .i64 i)], 1, [(0, [.slice a n c, .int .i64 nu, .int .i64 de])], h'⟩) (h1 : ∀ e kn K h', (∃ j : Int, 0 ≤ j ∧ j < i ∧ sameName (pj l j) (pj l i)) → Ext h h' → Q .ret ⟨(2, .int .i64 14) :: e, kn, K, h'⟩) :
    ∀ (k : Int), 0 ≤ k → k ≤ i.toNat → (∀ j : Int, 0 ≤ j → j < k → ¬ sameName (pj l j) (pj l i)) → ∀ h', Ext h h' → head 27 7 1 ⟨[(1, .pointer (some ⟨0, 0, some 0⟩)), (3, .int .i64 i), (4, .int .i64 k)], 1, [(0, [.slice a n c, .int .i64 nu, .int .i64 de])], h'⟩ Q := by
  have hl := hs.len
  refine countUp (fun k hk0 hkn ih hj h' he => ?_)
  refine hA.roundR Try.func27 r27_ok ?_; (try (conv => cbv)); repeat (refine brk_ok hA ?_; (try (conv => cbv)))
  refine br (k < i) (e_lss hA _ _) (fun c => ?_) (fun c => ?_) <;> (try (conv => cbv)) <;> repeat (refine brk_ok hA ?_; (try (conv => cbv)))
  · obtain ⟨b, o, nm1, sh, us, wt, rfl, hb, hp, hr, hr0, _, _, _⟩ := (hs.ext he).at hk0 (by omega)
    obtain ⟨b2, o2, nm2, sh2, us2, wt2, e2, hb2, hp2, hr2, hr20, _, _, _⟩ := (hs.ext he).at hi0 hi1
    simp only [Option.some.injEq, Addr.mk.injEq, and_true] at e2
    obtain ⟨rfl, rfl⟩ := e2
    refine ⟨b, o, rfl, in_ok hA hk0 (by omega), ?_⟩
    ((try (conv => cbv)); repeat (refine brk_ok hA ?_; (try (conv => cbv))))
    refine ⟨nm1, rd_fld hA (by rw [e_bump hA]; exact hr0), ?_⟩
    ((try (conv => cbv)); repeat (refine brk_ok hA ?_; (try (conv => cbv))))
    refine ⟨b, o, rfl, in_ok hA hi0 hi1, ?_⟩
    ((try (conv => cbv)); repeat (refine brk_ok hA ?_; (try (conv => cbv))))
    refine ⟨nm2, rd_fld hA (by rw [e_bump hA]; exact hr20), ?_⟩
    ((try (conv => cbv)); repeat (refine brk_ok hA ?_; (try (conv => cbv))))
    have e13 : Ext h (bump h' 13) := by rw [e_bump hA]; exact he.trans (.bump _ _)
    have hsc := e_scmp hA nm1 nm2
    have hsn : sameName (pj l k) (pj l i) ↔ scmp .eql nm1 nm2 = true := by unfold sameName; rw [hp, hp2, hsc]
    cases hc : scmp .eql nm1 nm2 <;> ((try (conv => cbv)); repeat (refine brk_ok hA ?_; (try (conv => cbv))))
    · rw [add64 hA (by omega) (by omega)]
      refine ih (by omega) (fun j hj0 hj1 => ?_) _ e13
      by_cases e : j = k
      · rw [e, hsn, hc]; simp
      · exact hj j hj0 (by omega)
    · exact h1 _ _ _ _ ⟨k, hk0, c, hsn.2 hc⟩ e13
  · exact h0 (fun j hj0 hj1 => hj j hj0 (by omega)) h' he

theorem rcheck_loop1 {h : AHeap} {a : Option Addr} {n c : Nat} (hn : n ≤ 8) {l : List Proj} (hs : Projs h a n l) {nu de : Int} {Q : Exit → SS → Prop}
    (h0 : ¬ twice l → ∀ h', Ext h h' → Q (.exit 0) ⟨[(1, .pointer (some ⟨0, 0, some 0⟩))], 1, [(0, [.slice a n c, .int .i64 nu, .int .i64 de])], h'⟩) (h1 : ∀ e kn K h', twice l → Ext h h' → Q .ret ⟨(2, .int .i64 14) :: e, kn, K, h'⟩) :
    ∀ (i : Int), 0 ≤ i → i ≤ n → (∀ j k : Int, 0 ≤ j → j < k → k < i → ¬ sameName (pj l j) (pj l k)) → ∀ h', Ext h h' → head 27 4 1 ⟨[(1, .pointer (some ⟨0, 0, some 0⟩)), (3, .int .i64 i)], 1, [(0, [.slice a n c, .int .i64 nu, .int .i64 de])], h'⟩ Q := by
  have hl := hs.len
  refine countUp (fun i hi0 hin ih hj h' he => ?_)
  refine hA.roundR Try.func27 r27_ok ?_; (try (conv => cbv)); repeat (refine brk_ok hA ?_; (try (conv => cbv)))
  refine br (i < n) (by rw [e_lss hA, e_ofNat hA]) (fun c => ?_) (fun c => ?_) <;> (try (conv => cbv)) <;> repeat (refine brk_ok hA ?_; (try (conv => cbv)))
  · refine rcheck_inner hA hn (hs.ext he) hi0 c (fun hno h2 he2 => ?_) (fun e kn K h2 hex he2 => ?_) 0 (by omega) (by omega) (fun j a b => by omega) h' (.refl _)
    · ((try (conv => cbv)); repeat (refine brk_ok hA ?_; (try (conv => cbv))))
      rw [add64 hA (by omega) (by omega)]
      refine ih c (fun j k hj0 hj1 hj2 hs2 => ?_) _ (he.trans he2)
      by_cases e : k = i
      · subst e; exact hno j hj0 hj1 hs2
      · exact hj j k hj0 hj1 (by omega) hs2
    · obtain ⟨j, hj0, hj1, hj2⟩ := hex
      exact h1 _ _ _ _ ⟨j, i, hj0, hj1, by omega, hj2⟩ (he.trans he2)
  · refine h0 (fun ht => ?_) h' he
    obtain ⟨j, k, hj0, hj1, hj2, hs2⟩ := ht
    exact hj j k hj0 hj1 (by omega) hs2

theorem rcheck_loop2 {h : AHeap} (hlow : h.low ≤ h.next) {a : Option Addr} {n c : Nat} (hn : n ≤ 8) {l : List Proj} (hs : Projs h a n l) (hsh : shortN l) {nu de : Int} (hnu : 0 ≤ nu ∧ nu ≤ 1000000) (hde : 1 ≤ de ∧ de ≤ 100) {Q : Exit → SS → Prop}
    (h0 : allFit nu de l → Q (.exit 4) ⟨[], 1, [(0, [.slice a n c, .int .i64 nu, .int .i64 de])], h⟩) (h1 : ∀ e kn K, ¬ allFit nu de l → Q .ret ⟨(2, .int .i64 8) :: e, kn, K, h⟩) :
    ∀ (i : Int), 0 ≤ i → i ≤ n → (∀ j : Int, 0 ≤ j → j < i → fits nu de (pj l j)) → head 27 14 1 ⟨[(1, .pointer (some ⟨0, 0, some 0⟩)), (5, .int .i64 i)], 1, [(0, [.slice a n c, .int .i64 nu, .int .i64 de])], h⟩ Q := by
  have hl := hs.len
  refine countUp (fun i hi0 hin ih hj => ?_)
  refine hA.roundR Try.func27 r27_ok ?_; (try (conv => cbv)); repeat (refine brk_ok hA ?_; (try (conv => cbv)))
  refine br (i < n) (by rw [e_lss hA, e_ofNat hA]) (fun c => ?_) (fun c => ?_) <;> (try (conv => cbv)) <;> repeat (refine brk_ok hA ?_; (try (conv => cbv)))
  · obtain ⟨b, o, nm1, sh, us, wt, rfl, hb, hp, hr, _, _, _, _⟩ := hs.at hi0 c
    have hsz : nm1.size ≤ 1000000 := by
      have := hsh _ (pj_mem l hi0 (by omega)); rw [hp] at this; exact this
    have bad : ¬ fits nu de (pj l i) → ¬ allFit nu de l := fun hn hall => hn (hall i hi0 (by omega))
    rw [hp] at bad
    have bt := e_bnot hA true
    have bf := e_bnot hA false
    refine ⟨b, o, rfl, in_ok hA hi0 c, ?_⟩
    ((try (conv => cbv)); repeat (refine brk_ok hA ?_; (try (conv => cbv))))
    refine ⟨nm1, sh, us, wt, rd_ok hA hr, ?_⟩
    ((try (conv => cbv)); repeat (refine brk_ok hA ?_; (try (conv => cbv))))
    refine rName_ok hA hlow hsz (fun r hr => ⟨_, rfl, ?_⟩)
    ((try (conv => cbv)); repeat (refine brk_ok hA ?_; (try (conv => cbv))))
    cases r
    · rw [bf]
      ((try (conv => cbv)); repeat (refine brk_ok hA ?_; (try (conv => cbv))))
      exact h1 _ _ _ (bad (fun hf => by have := hr.2 hf.1.1; cases this))
    have hp1 := hr.1 rfl
    rw [bt]
    ((try (conv => cbv)); repeat (refine brk_ok hA ?_; (try (conv => cbv))))
    refine in_fn hA _ _ _ hlow (fun r2 hr2 => ⟨_, rfl, ?_⟩)
    ((try (conv => cbv)); repeat (refine brk_ok hA ?_; (try (conv => cbv))))
    cases r2
    · have hn2 := of_decide_eq_false hr2.symm
      rw [bf]
      ((try (conv => cbv)); repeat (refine brk_ok hA ?_; (try (conv => cbv))))
      exact h1 _ _ _ (bad (fun hf => hn2 ⟨hf.1.2.1, hf.1.2.2.1⟩))
    have hp2 := of_decide_eq_true hr2.symm
    rw [bt]
    ((try (conv => cbv)); repeat (refine brk_ok hA ?_; (try (conv => cbv))))
    refine in_fn hA _ _ _ hlow (fun r3 hr3 => ⟨_, rfl, ?_⟩)
    ((try (conv => cbv)); repeat (refine brk_ok hA ?_; (try (conv => cbv))))
    cases r3
    · have hn3 := of_decide_eq_false hr3.symm
      rw [bf]
      ((try (conv => cbv)); repeat (refine brk_ok hA ?_; (try (conv => cbv))))
      exact h1 _ _ _ (bad (fun hf => hn3 ⟨hf.1.2.2.2.1, hf.1.2.2.2.2.1⟩))
    have hp3 := of_decide_eq_true hr3.symm
    rw [bt]
    ((try (conv => cbv)); repeat (refine brk_ok hA ?_; (try (conv => cbv))))
    refine in_fn hA _ _ _ hlow (fun r4 hr4 => ⟨_, rfl, ?_⟩)
    ((try (conv => cbv)); repeat (refine brk_ok hA ?_; (try (conv => cbv))))
    cases r4
    · have hn4 := of_decide_eq_false hr4.symm
      rw [bf]
      ((try (conv => cbv)); repeat (refine brk_ok hA ?_; (try (conv => cbv))))
      exact h1 _ _ _ (bad (fun hf => hn4 ⟨hf.1.2.2.2.2.2.1, hf.1.2.2.2.2.2.2⟩))
    have hp4 := of_decide_eq_true hr4.symm
    rw [bt]
    ((try (conv => cbv)); repeat (refine brk_ok hA ?_; (try (conv => cbv))))
    have m1 := mul_small hp3.1 (by omega) (b := de) (by omega) (by omega)
    have m2 := mul_small hnu.1 (by omega) (b := sh) (by omega) (by omega)
    have m3 := mul_small (a := us + 1) (by omega) (by omega) (b := de) (by omega) (by omega)
    have hpp : projP ⟨nm1, sh, us, wt⟩ := ⟨hp1, hp2.1, hp2.2, hp3.1, hp3.2, hp4.1, hp4.2⟩
    refine br (nu * sh < us * de) (by rw [e_gtr hA, mul64 hA (by omega) (by omega), mul64 hA (by omega) (by omega)]) (fun c2 => ?_) (fun c2 => ?_) <;> (try (conv => cbv)) <;> repeat (refine brk_ok hA ?_; (try (conv => cbv)))
    · exact h1 _ _ _ (bad (fun hf => by have := hf.2.1; simp only at this; omega))
    refine br (0 < wt) (e_gtr hA _ _) (fun c3 => ?_) (fun c3 => ?_) <;> (try (conv => cbv)) <;> repeat (refine brk_ok hA ?_; (try (conv => cbv)))
    · refine br ((us + 1) * de < nu * sh) (by rw [e_lss hA, add64 hA (by omega) (by omega), mul64 hA (by omega) (by omega), mul64 hA (by omega) (by omega)]) (fun c4 => ?_) (fun c4 => ?_) <;> (try (conv => cbv)) <;> repeat (refine brk_ok hA ?_; (try (conv => cbv)))
      · exact h1 _ _ _ (bad (fun hf => by have := hf.2.2 c3; simp only at this; omega))
      · rw [add64 hA (by omega) (by omega)]
        refine ih c (fun j hj0 hj1 => ?_)
        by_cases e : j = i
        · rw [e, hp]; exact ⟨hpp, by simp only; omega, fun _ => by simp only; omega⟩
        · exact hj j hj0 (by omega)
    · rw [add64 hA (by omega) (by omega)]
      refine ih c (fun j hj0 hj1 => ?_)
      by_cases e : j = i
      · rw [e, hp]; exact ⟨hpp, by simp only; omega, fun h => absurd h c3⟩
      · exact hj j hj0 (by omega)
  · exact h0 (fun j hj0 hj1 => hj j hj0 (by omega))

theorem rcheck_ok {h : AHeap} (hlow : h.low ≤ h.next) {a : Option Addr} {n c : Nat} (hn : n ≤ 1000000) {l : List Proj} (hs : Projs h a n l) (hsh : shortN l) (nu de : Int) {Q : Value → AHeap → Prop} (hQ : ∀ r h', r = checkQ l nu de → Ext h h' → Q (.int .i64 r) h') : call 27 [.agg #[.slice a n c, .int .i64 nu, .int .i64 de]] h Q := by
  have hl := hs.len
  refine hA.bodyR Try.func27 r27_ok (show prims _ _ _ = none from rfl) hlow ?_; (try (conv => cbv)); repeat (refine brk_ok hA ?_; (try (conv => cbv)))
  refine br (8 < (n : Int)) (by rw [e_gtr hA, e_ofNat hA]) (fun c1 => ?_) (fun c1 => ?_) <;> (try (conv => cbv)) <;> repeat (refine brk_ok hA ?_; (try (conv => cbv)))
  · exact hQ 4 _ (by unfold checkQ; rw [if_pos (by omega)]) (.refl _)
  refine rcheck_loop1 hA (by omega) hs (fun ht h1 he1 => ?_) (fun e kn K h1 ht he1 => ?_) 0 (by omega) (by omega) (fun j k a b c => by omega) h (.refl _)
  rotate_left
  · ((try (conv => cbv)); repeat (refine brk_ok hA ?_; (try (conv => cbv))))
    exact hQ 14 _ (by unfold checkQ; rw [if_neg (by omega), if_pos ht]) he1
  have bad8 : (l.length = 0 ∨ ¬ (1 ≤ de ∧ de ≤ 100) ∨ ¬ (0 ≤ nu ∧ nu ≤ 1000000)) → Q (.int .i64 8) h1 := fun hb => hQ 8 h1 (by unfold checkQ; rw [if_neg (by omega), if_neg ht, if_pos hb]) he1
  have bt := e_bnot hA true
  have bf := e_bnot hA false
  have hl1 := he1.lowOK hlow
  ((try (conv => cbv)); repeat (refine brk_ok hA ?_; (try (conv => cbv))))
  refine br ((n : Int) = 0) (by rw [e_eql hA, e_ofNat hA]) (fun c2 => ?_) (fun c2 => ?_) <;> (try (conv => cbv)) <;> repeat (refine brk_ok hA ?_; (try (conv => cbv)))
  · exact bad8 (by omega)
  refine in_fn hA _ _ _ hl1 (fun r2 hr2 => ⟨_, rfl, ?_⟩)
  ((try (conv => cbv)); repeat (refine brk_ok hA ?_; (try (conv => cbv))))
  cases r2
  · have hn2 := of_decide_eq_false hr2.symm
    rw [bf]
    ((try (conv => cbv)); repeat (refine brk_ok hA ?_; (try (conv => cbv))))
    exact bad8 (.inr (.inl hn2))
  have hp2 := of_decide_eq_true hr2.symm
  rw [bt]
  ((try (conv => cbv)); repeat (refine brk_ok hA ?_; (try (conv => cbv))))
  refine in_fn hA _ _ _ hl1 (fun r3 hr3 => ⟨_, rfl, ?_⟩)
  ((try (conv => cbv)); repeat (refine brk_ok hA ?_; (try (conv => cbv))))
  cases r3
  · have hn3 := of_decide_eq_false hr3.symm
    rw [bf]
    ((try (conv => cbv)); repeat (refine brk_ok hA ?_; (try (conv => cbv))))
    exact bad8 (.inr (.inr hn3))
  have hp3 := of_decide_eq_true hr3.symm
  rw [bt]
  ((try (conv => cbv)); repeat (refine brk_ok hA ?_; (try (conv => cbv))))
  refine rcheck_loop2 hA hl1 (by omega) (hs.ext he1) hsh hp3 hp2 (fun hall => ?_) (fun e kn K hall => ?_) 0 (by omega) (by omega) (fun j a b => by omega)
  · ((try (conv => cbv)); repeat (refine brk_ok hA ?_; (try (conv => cbv))))
    exact hQ 0 _ (by unfold checkQ; rw [if_neg (by omega), if_neg ht, if_neg (by omega), if_pos hall]) he1
  · ((try (conv => cbv)); repeat (refine brk_ok hA ?_; (try (conv => cbv))))
    exact hQ 8 _ (by unfold checkQ; rw [if_neg (by omega), if_neg ht, if_neg (by omega), if_neg hall]) he1

end Go.Proofs.Ytlpnmdknlfmjaaa
