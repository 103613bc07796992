/-
  fringeref42.Same, SameInts: what they return.
-/
import Derived.Test.YtlpnmdknlfmjaaaQTurn
namespace Go.Proofs.Ytlpnmdknlfmjaaa
open Go.Sim
set_option linter.unusedVariables false
set_option maxRecDepth 100000

theorem guard55 : Try.prog.eqGuardType Try.prog.depth 55 = false := by kernel_rfl

theorem eqP (nm nm' : ByteArray) (a b c a' b' c' : Int) : ∃ r, eqA Try.prog 30 55 (.agg #[.string nm, .int .i64 a, .int .i64 b, .int .i64 c]) (.agg #[.string nm', .int .i64 a', .int .i64 b', .int .i64 c']) = some r ∧ (r = true ↔ nm = nm' ∧ a = a' ∧ b = b' ∧ c = c') := by
  have h3 : Try.prog.underlying 3 = some (.int .i64) := by kernel_rfl
  have h9 : Try.prog.underlying 9 = some .string := by kernel_rfl
  have hst : Try.prog.stoodInHeld 55 = false := by kernel_rfl
  have i3 : isAggB Try.prog 3 = some false := by kernel_rfl
  have i9 : isAggB Try.prog 9 = some false := by kernel_rfl
  have e3 : ∀ (n : Nat) (x y : Int), eqA Try.prog (n + 1) 3 (.int .i64 x) (.int .i64 y) = some (x == y) := by
    intro n x y
    unfold eqA
    rw [h3]
    simp
  have e9 : ∀ (n : Nat) (x y : ByteArray), eqA Try.prog (n + 1) 9 (.string x) (.string y) = some (x == y) := by
    intro n x y
    unfold eqA
    rw [h9]
  have key : eqA Try.prog (28 + 1 + 1) 55 (.agg #[.string nm, .int .i64 a, .int .i64 b, .int .i64 c]) (.agg #[.string nm', .int .i64 a', .int .i64 b', .int .i64 c']) = some ((nm == nm') && (a == a') && (b == b') && (c == c')) := by
    unfold eqA
    rw [Try.underlying55]
    have e3' : ∀ (x y : Int), eqA Try.prog 29 3 (.int .i64 x) (.int .i64 y) = some (x == y) := e3 28
    have e9' : ∀ (x y : ByteArray), eqA Try.prog 29 9 (.string x) (.string y) = some (x == y) := e9 28
    simp only [hst, cond_false, List.foldr, partA, i3, i9, List.getElem?_cons_zero, List.getElem?_cons_succ, e3', e9', String.reduceEq, if_false]
    cases nm == nm' <;> cases a == a' <;> cases b == b' <;> cases c == c' <;> rfl
  refine ⟨_, key, ?_⟩
  have hb : ∀ x y : ByteArray, (x == y) = true ↔ x = y := by
    intro x y
    cases x with
    | mk x => cases y with
      | mk y =>
        show (x == y) = true ↔ _
        simp
  simp only [Bool.and_eq_true, hb, beq_iff_eq, and_assoc]

theorem projs_ext {l m : List Proj} (hl : l.length = m.length) (h : ∀ j : Int, 0 ≤ j → j < l.length → pj l j = pj m j) : l = m := by
  apply List.ext_getElem hl
  intro i h1 h2
  have := h i (by omega) (by omega)
  unfold pj at this
  rw [Int.toNat_natCast, pj_at l h1, pj_at m h2] at this
  exact this

variable {call : FuncId → List Value → AHeap → (Value → AHeap → Prop) → Prop}
  {head : FuncId → Nat → Nat → SS → (Exit → SS → Prop) → Prop}
  {arith : BinOp → IntKind → Int → Int → Int}
  {cmp : BinOp → Int → Int → Bool}
  {scmp : BinOp → ByteArray → ByteArray → Bool}
  {bnot : Bool → Bool}
  {bsame : Bool → Bool → Bool}
  {conv : IntKind → Int → Int}
  {neg : IntKind → Int → Int}
  {imax : Int → Int → Int}
  {imin : Int → Int → Int}
  {ofNat : Nat → Int}
  {slen : ByteArray → Int}
  {place : Nat → Int → Nat → Nat}
  {inR : Int → Nat → Prop}
  {nz : Int → Prop}
  {geZ : Int → Prop}
  {rd : AHeap → Nat → Nat → Nat → List Value → Prop}
  {wr : AHeap → Nat → Nat → List Value → AHeap → Prop}
  {push : AHeap → Nat → List Value → AHeap}
  {next : AHeap → Nat}
  {mkOK : Int → Int → Prop}
  {nat : Int → Nat}
  {zeros : List Value → Int → List Value}
  {sadd : ByteArray → ByteArray → (ByteArray → Prop) → Prop}
  {eqAgg : TypeId → Array Value → Array Value → (Bool → Prop) → Prop}
  {cut : Nat → Int → Prop}
  {slc : TypeId → Value → Option Value → Option Value → Option Value → (Option Addr → Nat → Nat → Prop) → Prop}
  {sslc : TypeId → ByteArray → Option Value → Option Value → (ByteArray → Prop) → Prop}
  {strAt : ByteArray → Int → (Int → Prop) → Prop}
  {part : TypeId → Array Value → Nat → Value → Prop}
  {app : List TypeId → List Value → AHeap → (Option Addr → Nat → Nat → AHeap → Prop) → Prop}
  {cpy : List TypeId → List Value → AHeap → (Int → AHeap → Prop) → Prop}
  {putAt : AHeap → Nat → Nat → List Value → AHeap}
  {fresh : AHeap → AHeap}
  {lowered : AHeap → AHeap → AHeap}
  {bump : AHeap → Nat → AHeap}
  {wrote : AHeap → AHeap → Bool}
  {addN : Nat → Nat → Nat}
  {lt : Nat → Nat → Prop}
  {ne : Nat → Nat → Prop}
  {fpAll : Bool → Bool → Bool → Nat → Nat → Prop}
  {brk : (Unit → Prop) → Prop}
  (hA : AOK progU hint prims ⟨call, head, arith, cmp, scmp, bnot, bsame, conv, neg, imax, imin, ofNat, slen, place, inR, nz, geZ, rd, wr, push, next, mkOK, nat, zeros, sadd, eqAgg, cut, slc, sslc, strAt, part, app, cpy, putAt, fresh, lowered, bump, wrote, addN, lt, ne, fpAll, brk⟩)
include hA

theorem same_loop {h : AHeap} {a a' : Option Addr} {n c c' : Nat} (hn : n ≤ 1000000) {l l' : List Proj} (hs : Projs h a n l) (hs' : Projs h a' n l') {nu de nu' de' : Int} {Q : Exit → SS → Prop}
    (h0 : l = l' → ∀ h', Ext h h' → Q (.exit 0) ⟨[], 2, [(0, [.slice a n c, .int .i64 nu, .int .i64 de]), (1, [.slice a' n c', .int .i64 nu', .int .i64 de'])], h'⟩)
    (h1 : l ≠ l' → ∀ e kn K h', Ext h h' → Q .ret ⟨(4, .bool false) :: e, kn, K, h'⟩) :
    ∀ (i : Int), 0 ≤ i → i ≤ n → (∀ j : Int, 0 ≤ j → j < i → pj l j = pj l' j) → ∀ h', Ext h h' →
      head 15 4 2 ⟨[(2, .pointer (some ⟨0, 0, some 0⟩)), (3, .pointer (some ⟨1, 0, some 0⟩)), (5, .int .i64 i)], 2, [(0, [.slice a n c, .int .i64 nu, .int .i64 de]), (1, [.slice a' n c', .int .i64 nu', .int .i64 de'])], h'⟩ Q := by
  have hl := hs.len
  have hl' := hs'.len
  refine countUp (fun i hi0 hin ih hj h' he => ?_)
  refine hA.roundR Try.func15 r15_ok ?_; (try (conv => cbv)); repeat (refine brk_ok hA ?_; (try (conv => cbv)))
  refine br (i < n) (by rw [e_lss hA, e_ofNat hA]) (fun c1 => ?_) (fun c1 => ?_) <;> (try (conv => cbv)) <;> repeat (refine brk_ok hA ?_; (try (conv => cbv)))
  · obtain ⟨b, o, nm, sh, us, wt, rfl, hb3, hp, hr, _, _, _, _⟩ := (hs.ext he).at hi0 c1
    obtain ⟨b', o', nm', sh', us', wt', rfl, hb3', hp', hr', _, _, _, _⟩ := (hs'.ext he).at hi0 c1
    have eb : Ext h (bump h' 11) := by rw [e_bump hA]; exact he.trans (.bump _ _)
    refine ⟨b, o, rfl, in_ok hA hi0 c1, ?_⟩
    ((try (conv => cbv)); repeat (refine brk_ok hA ?_; (try (conv => cbv))))
    refine ⟨nm, sh, us, wt, rd_ok hA (by rw [e_bump hA]; exact hr), ?_⟩
    ((try (conv => cbv)); repeat (refine brk_ok hA ?_; (try (conv => cbv))))
    refine ⟨b', o', rfl, in_ok hA hi0 c1, ?_⟩
    ((try (conv => cbv)); repeat (refine brk_ok hA ?_; (try (conv => cbv))))
    refine ⟨nm', sh', us', wt', rd_ok hA (by rw [e_bump hA]; exact hr'), ?_⟩
    ((try (conv => cbv)); repeat (refine brk_ok hA ?_; (try (conv => cbv))))
    obtain ⟨r, hr1, hr2⟩ := eqP nm nm' sh us wt sh' us' wt'
    rw [e_eqAgg hA]
    refine ⟨guard55, r, hr1, ?_⟩
    ((try (conv => cbv)); repeat (refine brk_ok hA ?_; (try (conv => cbv))))
    have bt := e_bnot hA true
    have bf := e_bnot hA false
    cases r with
    | true =>
      rw [bt]
      ((try (conv => cbv)); repeat (refine brk_ok hA ?_; (try (conv => cbv))))
      obtain ⟨rfl, rfl, rfl, rfl⟩ := hr2.1 rfl
      rw [add64 hA (by omega) (by omega)]
      refine ih c1 (fun j hj0 hj1 => ?_) _ eb
      by_cases e : j = i
      · rw [e, hp, hp']
      · exact hj j hj0 (by omega)
    | false =>
      rw [bf]
      ((try (conv => cbv)); repeat (refine brk_ok hA ?_; (try (conv => cbv))))
      refine h1 (fun e => ?_) _ _ _ _ eb
      subst e
      rw [hp] at hp'
      simp only [Proj.mk.injEq] at hp'
      have := hr2.2 hp'
      cases this
  · refine h0 (projs_ext (by omega) (fun j hj0 hj1 => hj j hj0 (by omega))) h' he

theorem same_ok {h : AHeap} (hlow : h.low ≤ h.next) {a a' : Option Addr} {n n' c c' : Nat} (hn : n ≤ 1000000) {l l' : List Proj} (hs : Projs h a n l) (hs' : Projs h a' n' l') (nu de nu' de' : Int) {Q : Value → AHeap → Prop}
    (hQ : ∀ r h', Ext h h' → (r = true ↔ l = l' ∧ nu = nu' ∧ de = de') → Q (.bool r) h') : call 15 [.agg #[.slice a n c, .int .i64 nu, .int .i64 de], .agg #[.slice a' n' c', .int .i64 nu', .int .i64 de']] h Q := by
  have hl := hs.len
  have hl' := hs'.len
  refine hA.bodyR Try.func15 r15_ok (show prims _ _ _ = none from rfl) hlow ?_; (try (conv => cbv)); repeat (refine brk_ok hA ?_; (try (conv => cbv)))
  refine br (nu ≠ nu') (e_neq hA _ _) (fun c1 => ?_) (fun c1 => ?_) <;> (try (conv => cbv)) <;> repeat (refine brk_ok hA ?_; (try (conv => cbv)))
  · exact hQ false _ (.refl _) (by simp; exact fun _ h => absurd h c1)
  refine br (de ≠ de') (e_neq hA _ _) (fun c2 => ?_) (fun c2 => ?_) <;> (try (conv => cbv)) <;> repeat (refine brk_ok hA ?_; (try (conv => cbv)))
  · exact hQ false _ (.refl _) (by simp; exact fun _ _ => c2)
  refine br ((n : Int) ≠ n') (by rw [e_neq hA, e_ofNat hA, e_ofNat hA]) (fun c3 => ?_) (fun c3 => ?_) <;> (try (conv => cbv)) <;> repeat (refine brk_ok hA ?_; (try (conv => cbv)))
  · refine hQ false _ (.refl _) ?_
    simp only [Bool.false_eq_true, false_iff]
    rintro ⟨rfl, _⟩
    omega
  have e : n = n' := by omega
  subst e
  refine same_loop hA hn hs hs' (fun hall h1 he1 => ?_) (fun hall e kn K h1 he1 => ?_) 0 (by omega) (by omega) (fun j a b => by omega) h (.refl _)
  · ((try (conv => cbv)); repeat (refine brk_ok hA ?_; (try (conv => cbv))))
    exact hQ true _ he1 (by simp only [true_iff]; exact ⟨hall, by omega, by omega⟩)
  · ((try (conv => cbv)); repeat (refine brk_ok hA ?_; (try (conv => cbv))))
    exact hQ false _ he1 (by simp only [Bool.false_eq_true, false_iff]; exact fun h => hall h.1)

theorem sameInts_loop {h : AHeap} {a a' : Option Addr} {n c c' : Nat} (hn : n ≤ 1000000) {l l' : List Int} (hs : Ints h .i64 a n l) (hs' : Ints h .i64 a' n l') {Q : Exit → SS → Prop}
    (h0 : l = l' → ∀ h', Ext h h' → Q (.exit 0) ⟨[], 0, [], h'⟩)
    (h1 : l ≠ l' → ∀ e kn K h', Ext h h' → Q .ret ⟨(4, .bool false) :: e, kn, K, h'⟩) :
    ∀ (i : Int), 0 ≤ i → i ≤ n → (∀ j : Int, 0 ≤ j → j < i → at' l j = at' l' j) → ∀ h', Ext h h' →
      head 16 4 0 ⟨[(0, .slice a n c), (1, .slice a' n c'), (5, .int .i64 i)], 0, [], h'⟩ Q := by
  have hl := hs.len
  have hl' := hs'.len
  refine countUp (fun i hi0 hin ih hj h' he => ?_)
  refine hA.roundR Try.func16 r16_ok ?_; (try (conv => cbv)); repeat (refine brk_ok hA ?_; (try (conv => cbv)))
  refine br (i < n) (by rw [e_lss hA, e_ofNat hA]) (fun c1 => ?_) (fun c1 => ?_) <;> (try (conv => cbv)) <;> repeat (refine brk_ok hA ?_; (try (conv => cbv)))
  · obtain ⟨b, o, x, rfl, hb3, hx, hr⟩ := (hs.ext he).atI hi0 c1
    obtain ⟨b', o', x', rfl, hb3', hx', hr'⟩ := (hs'.ext he).atI hi0 c1
    have eb : Ext h (bump h' 9) := by rw [e_bump hA]; exact he.trans (.bump _ _)
    refine ⟨b, o, rfl, in_ok hA hi0 c1, ?_⟩
    ((try (conv => cbv)); repeat (refine brk_ok hA ?_; (try (conv => cbv))))
    refine ⟨x, rd_ok hA (by rw [e_bump hA]; exact hr), ?_⟩
    ((try (conv => cbv)); repeat (refine brk_ok hA ?_; (try (conv => cbv))))
    refine ⟨b', o', rfl, in_ok hA hi0 c1, ?_⟩
    ((try (conv => cbv)); repeat (refine brk_ok hA ?_; (try (conv => cbv))))
    refine ⟨x', rd_ok hA (by rw [e_bump hA]; exact hr'), ?_⟩
    ((try (conv => cbv)); repeat (refine brk_ok hA ?_; (try (conv => cbv))))
    refine br (x ≠ x') (e_neq hA _ _) (fun c2 => ?_) (fun c2 => ?_) <;> (try (conv => cbv)) <;> repeat (refine brk_ok hA ?_; (try (conv => cbv)))
    · exact h1 (fun e => by subst e; exact c2 (by rw [hx, hx'])) _ _ _ _ eb
    · rw [add64 hA (by omega) (by omega)]
      refine ih c1 (fun j hj0 hj1 => ?_) _ eb
      by_cases e : j = i
      · rw [e, ← hx, ← hx']; omega
      · exact hj j hj0 (by omega)
  · refine h0 (list_ext' (by omega) (fun j hj0 hj1 => hj j hj0 (by omega))) h' he

theorem sameInts_ok {h : AHeap} (hlow : h.low ≤ h.next) {a a' : Option Addr} {n n' c c' : Nat} (hn : n ≤ 1000000) {l l' : List Int} (hs : Ints h .i64 a n l) (hs' : Ints h .i64 a' n' l') {Q : Value → AHeap → Prop}
    (hQ : ∀ r h', Ext h h' → (r = true ↔ l = l') → Q (.bool r) h') : call 16 [.slice a n c, .slice a' n' c'] h Q := by
  have hl := hs.len
  have hl' := hs'.len
  refine hA.bodyR Try.func16 r16_ok (show prims _ _ _ = none from rfl) hlow ?_; (try (conv => cbv)); repeat (refine brk_ok hA ?_; (try (conv => cbv)))
  refine br ((n : Int) ≠ n') (by rw [e_neq hA, e_ofNat hA, e_ofNat hA]) (fun c3 => ?_) (fun c3 => ?_) <;> (try (conv => cbv)) <;> repeat (refine brk_ok hA ?_; (try (conv => cbv)))
  · refine hQ false _ (.refl _) ?_
    simp only [Bool.false_eq_true, false_iff]
    rintro rfl
    omega
  have e : n = n' := by omega
  subst e
  refine sameInts_loop hA hn hs hs' (fun hall h1 he1 => ?_) (fun hall e kn K h1 he1 => ?_) 0 (by omega) (by omega) (fun j a b => by omega) h (.refl _)
  · ((try (conv => cbv)); repeat (refine brk_ok hA ?_; (try (conv => cbv))))
    exact hQ true _ he1 (by simp only [true_iff]; exact hall)
  · ((try (conv => cbv)); repeat (refine brk_ok hA ?_; (try (conv => cbv))))
    exact hQ false _ he1 (by simp only [Bool.false_eq_true, false_iff]; exact hall)

end Go.Proofs.Ytlpnmdknlfmjaaa
