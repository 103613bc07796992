/-
  SHAPES, AS THE REFERENCE SEES THEM (fringeref40.Image, Beam), LOGS (clean.isLog, fringeref40.Log), AND WHETHER TWO IMAGES ARE THE SAME (fringeref40.Same).
-/
import Derived.Test.YtogofeppflindaaCSub
namespace Go.Proofs.Ytogofeppflindaa
open Go.Sim
set_option linter.unusedVariables false
set_option maxRecDepth 100000

/-! ### Logs -/

def flatC (l : List Comp) : List Value := l.flatMap Comp.cells
theorem flatC_len (l : List Comp) : (flatC l).length = l.length * 3 := flat_len Comp.cells (fun _ => rfl) l

/-- A log that may be read. -/
structure Log (h : AHeap) (a : Option Addr) (n : Nat) (l : List Comp) : Prop where
  cells : Cells h a n 3 (flatC l)

def ca (l : List Comp) (i : Int) : Comp := l.getD i.toNat ⟨0, 0, 0⟩

theorem Log.len {h : AHeap} {a : Option Addr} {n : Nat} {l : List Comp} (p : Log h a n l) : l.length = n := by
  have := p.cells.length
  rw [flatC_len] at this
  omega
theorem Log.ext {h h' : AHeap} {a : Option Addr} {n : Nat} {l : List Comp} (p : Log h a n l) (e : Ext h h') : Log h' a n l := ⟨p.cells.ext e⟩

theorem flatC_drop (l : List Comp) (i : Nat) (hi : i < l.length) : ((flatC l).drop (i * 3)).take 3 = (l.getD i ⟨0, 0, 0⟩).cells := by
  induction l generalizing i with
  | nil => simp at hi
  | cons c l ih =>
    cases i with
    | zero => rfl
    | succ i =>
      have e : (flatC (c :: l)).drop ((i + 1) * 3) = (flatC l).drop (i * 3) := by
        show (c.cells ++ flatC l).drop ((i + 1) * 3) = _
        rw [show (i + 1) * 3 = c.cells.length + i * 3 by simp [Comp.cells]; omega, List.drop_append, List.drop_eq_nil_of_le (by omega), Nat.add_sub_cancel_left, List.nil_append]
      rw [e]
      exact ih i (by simpa using hi)

theorem Log.at {h : AHeap} {a : Option Addr} {n : Nat} {l : List Comp} (p : Log h a n l) {i : Int} (h0 : 0 ≤ i) (hi : i < n) :
    ∃ b o x y f, a = some ⟨b, o, none⟩ ∧ b < h.next ∧ ca l i = ⟨x, y, f⟩ ∧ h.readG ⟨b, o + i.toNat * 3, none⟩ 3 = some [.int .i64 x, .int .i64 y, .int .i64 f] ∧
      h.readG ⟨b, o + i.toNat * 3 + 0, none⟩ 1 = some [.int .i64 x] ∧ h.readG ⟨b, o + i.toNat * 3 + 1, none⟩ 1 = some [.int .i64 y] ∧ h.readG ⟨b, o + i.toNat * 3 + 2, none⟩ 1 = some [.int .i64 f] := by
  have hl := p.len
  obtain ⟨b, o, h1, h2, h3⟩ := p.cells.at (i := i.toNat * 3) (m := 3) (by omega) (by omega)
  rw [flatC_drop l i.toNat (by omega)] at h3
  have part : ∀ k v, k < 3 → (ca l i).cells[k]? = some v → h.readG ⟨b, o + i.toNat * 3 + k, none⟩ 1 = some [v] := by
    intro k v hk hv
    obtain ⟨b', o', h1', _, h3'⟩ := p.cells.at (i := i.toNat * 3 + k) (m := 1) (by omega) (by omega)
    rw [h1] at h1'
    cases h1'
    rw [Nat.add_assoc, h3']
    congr 1
    refine take_one _ _ _ ?_
    have e : (flatC l)[i.toNat * 3 + k]? = (((flatC l).drop (i.toNat * 3)).take 3)[k]? := by
      rw [List.getElem?_take, if_pos hk, List.getElem?_drop]
    rw [e, flatC_drop l i.toNat (by omega)]
    exact hv
  exact ⟨b, o, (ca l i).x, (ca l i).y, (ca l i).f, h1, h2, rfl, h3, part 0 _ (by omega) rfl, part 1 _ (by omega) rfl, part 2 _ (by omega) rfl⟩

/-- A component of an image of n by n cells. -/
def compP (n : Int) (p : Comp) : Prop := 0 ≤ p.x ∧ p.x < n ∧ 0 ≤ p.y ∧ p.y < n ∧ within 1000000000 p.f
def logP (n : Int) (l : List Comp) : Prop := (l.length : Int) ≤ 100 ∧ ∀ i : Int, 0 ≤ i → i < l.length → compP n (ca l i)

variable {call : FuncId → List Value → AHeap → (Value → AHeap → Prop) → Prop}
  {head : FuncId → Nat → Nat → SS → (Exit → SS → Prop) → Prop}
  {arith : BinOp → IntKind → Int → Int → Int}
  {cmp : BinOp → Int → Int → Bool}
  {scmp : BinOp → ByteArray → ByteArray → Bool}
  {bnot : Bool → Bool}
  {bsame : Bool → Bool → Bool}
  {conv : IntKind → Int → Int}
  {neg : IntKind → Int → Int}
  {imax : Int → Int → Int}
  {imin : Int → Int → Int}
  {ofNat : Nat → Int}
  {slen : ByteArray → Int}
  {place : Nat → Int → Nat → Nat}
  {inR : Int → Nat → Prop}
  {nz : Int → Prop}
  {geZ : Int → Prop}
  {rd : AHeap → Nat → Nat → Nat → List Value → Prop}
  {wr : AHeap → Nat → Nat → List Value → AHeap → Prop}
  {push : AHeap → Nat → List Value → AHeap}
  {next : AHeap → Nat}
  {mkOK : Int → Int → Prop}
  {nat : Int → Nat}
  {zeros : List Value → Int → List Value}
  {sadd : ByteArray → ByteArray → (ByteArray → Prop) → Prop}
  {eqAgg : TypeId → Array Value → Array Value → (Bool → Prop) → Prop}
  {cut : Nat → Int → Prop}
  {slc : TypeId → Value → Option Value → Option Value → Option Value → (Option Addr → Nat → Nat → Prop) → Prop}
  {sslc : TypeId → ByteArray → Option Value → Option Value → (ByteArray → Prop) → Prop}
  {strAt : ByteArray → Int → (Int → Prop) → Prop}
  {part : TypeId → Array Value → Nat → Value → Prop}
  {app : List TypeId → List Value → AHeap → (Option Addr → Nat → Nat → AHeap → Prop) → Prop}
  {cpy : List TypeId → List Value → AHeap → (Int → AHeap → Prop) → Prop}
  {putAt : AHeap → Nat → Nat → List Value → AHeap}
  {fresh : AHeap → AHeap}
  {lowered : AHeap → AHeap → AHeap}
  {bump : AHeap → Nat → AHeap}
  {wrote : AHeap → AHeap → Bool}
  {addN : Nat → Nat → Nat}
  {lt : Nat → Nat → Prop}
  {ne : Nat → Nat → Prop}
  {fpAll : Bool → Bool → Bool → Nat → Nat → Prop}
  {brk : (Unit → Prop) → Prop}
  {yn : Nat → Nat}
  {rng : FuncId → Nat → SS → (Exit → SS → Prop) → Prop}
  {mget : TypeId → Value → Value → AHeap → Value → Bool → Prop}
  {mput : TypeId → Value → Value → Value → AHeap → AHeap → Prop}
  {mnew : AHeap → AHeap}
  {bytes : TypeId → TypeId → Option Addr → Nat → AHeap → ByteArray → Prop}
  {clr : List TypeId → List Value → AHeap → AHeap → Prop}
  (hA : AOK progU hint prims ⟨call, head, arith, cmp, scmp, bnot, bsame, conv, neg, imax, imin, ofNat, slen, place, inR, nz, geZ, rd, wr, push, next, mkOK, nat, zeros, sadd, eqAgg, cut, slc, sslc, strAt, part, app, cpy, putAt, fresh, lowered, bump, wrote, addN, lt, ne, fpAll, brk, yn, rng, mget, mput, mnew, bytes, clr⟩)
include hA

theorem isLog_loop {h : AHeap} (hlow : h.low ≤ h.next) {a : Option Addr} {m c : Nat} {l : List Comp} (hg : Log h a m l) (hm : (m : Int) ≤ 100) {n : Int} {Q : Exit → SS → Prop}
    (h0 : (∀ i : Int, 0 ≤ i → i < m → compP n (ca l i)) → ∀ e kn K, Q (.exit 0) ⟨e, kn, K, h⟩) (h1 : ∀ e kn K, (∃ i : Int, 0 ≤ i ∧ i < m ∧ ¬ compP n (ca l i)) → Q .ret ⟨(4, .bool false) :: e, kn, K, h⟩) :
    ∀ i : Int, 0 ≤ i → i ≤ m → (∀ j : Int, 0 ≤ j → j < i → compP n (ca l j)) → head 40 4 0 ⟨[(0, .int .i64 n), (10, .slice a m c), (11, .int .i64 (ofNat m)), (12, .int .i64 i)], 0, [], h⟩ Q := by
  have hl := hg.len
  refine countUp (fun i hi0 him ih hall => ?_)
  refine hA.roundR Try.func40 r40_ok ?_; (try (conv => cbv)); repeat (refine brk_ok hA ?_; (try (conv => cbv)))
  refine br (i < m) (by rw [e_lss hA, e_ofNat hA]) (fun c1 => ?_) (fun c1 => ?_) <;> (try (conv => cbv)) <;> repeat (refine brk_ok hA ?_; (try (conv => cbv)))
  · obtain ⟨b, o, x, y, f, rfl, hb, hca, hrd, _, _, _⟩ := hg.at hi0 c1
    refine ⟨b, o, rfl, in_ok hA hi0 c1, ?_⟩
    ((try (conv => cbv)); repeat (refine brk_ok hA ?_; (try (conv => cbv))))
    refine ⟨x, y, f, rd_ok hA hrd, ?_⟩
    ((try (conv => cbv)); repeat (refine brk_ok hA ?_; (try (conv => cbv))))
    have bad : ¬ compP n ⟨x, y, f⟩ → ∃ i : Int, 0 ≤ i ∧ i < m ∧ ¬ compP n (ca l i) := fun q => ⟨i, hi0, c1, by rw [hca]; exact q⟩
    refine br (x < 0) (e_lss hA _ _) (fun c2 => ?_) (fun c2 => ?_) <;> (try (conv => cbv)) <;> repeat (refine brk_ok hA ?_; (try (conv => cbv)))
    · exact h1 _ _ _ (bad (fun q => by have := q.1; simp only [] at this; omega))
    refine br (n ≤ x) (e_geq hA _ _) (fun c3 => ?_) (fun c3 => ?_) <;> (try (conv => cbv)) <;> repeat (refine brk_ok hA ?_; (try (conv => cbv)))
    · exact h1 _ _ _ (bad (fun q => by have := q.2.1; simp only [] at this; omega))
    refine br (y < 0) (e_lss hA _ _) (fun c4 => ?_) (fun c4 => ?_) <;> (try (conv => cbv)) <;> repeat (refine brk_ok hA ?_; (try (conv => cbv)))
    · exact h1 _ _ _ (bad (fun q => by have := q.2.2.1; simp only [] at this; omega))
    refine br (n ≤ y) (e_geq hA _ _) (fun c5 => ?_) (fun c5 => ?_) <;> (try (conv => cbv)) <;> repeat (refine brk_ok hA ?_; (try (conv => cbv)))
    · exact h1 _ _ _ (bad (fun q => by have := q.2.2.2.1; simp only [] at this; omega))
    refine inRange_ok hA hlow (fun r hr => ⟨_, rfl, ?_⟩)
    ((try (conv => cbv)); repeat (refine brk_ok hA ?_; (try (conv => cbv))))
    cases r with
    | false =>
      ((try (conv => cbv)); repeat (refine brk_ok hA ?_; (try (conv => cbv))))
      refine br (True) (by rw [e_bnot hA]; rfl) (fun _ => ?_) (fun q => absurd trivial q) <;> (try (conv => cbv)) <;> repeat (refine brk_ok hA ?_; (try (conv => cbv)))
      exact h1 _ _ _ (bad (fun q => by have := hr.2 q.2.2.2.2; cases this))
    | true =>
      ((try (conv => cbv)); repeat (refine brk_ok hA ?_; (try (conv => cbv))))
      refine br (False) (by rw [e_bnot hA]; rfl) (fun q => q.elim) (fun _ => ?_) <;> (try (conv => cbv)) <;> repeat (refine brk_ok hA ?_; (try (conv => cbv)))
      rw [add64 hA (by omega) (by omega)]
      refine ih c1 (fun j h2 h3 => ?_)
      by_cases e : j = i
      · rw [e, hca]; exact ⟨by simp only []; omega, by simp only []; omega, by simp only []; omega, by simp only []; omega, hr.1 rfl⟩
      · exact hall j h2 (by omega)
  · exact h0 (fun j h2 h3 => hall j h2 (by omega)) _ _ _

theorem isLog_ok {h : AHeap} (hlow : h.low ≤ h.next) {a : Option Addr} {m c : Nat} {l : List Comp} (hg : Log h a m l) {n : Int} {Q : Value → AHeap → Prop}
    (hQ : ∀ r : Bool, (r = true ↔ logP n l) → Q (.bool r) h) : call 40 [.int .i64 n, .slice a m c] h Q := by
  have hl := hg.len
  refine hA.bodyR Try.func40 r40_ok (show prims _ _ _ = none from rfl) hlow ?_; (try (conv => cbv)); repeat (refine brk_ok hA ?_; (try (conv => cbv)))
  refine br (100 < (m : Int)) (by rw [e_gtr hA, e_ofNat hA]) (fun c1 => ?_) (fun c1 => ?_) <;> (try (conv => cbv)) <;> repeat (refine brk_ok hA ?_; (try (conv => cbv)))
  · exact hQ _ (no (fun q => by have := q.1; omega))
  · refine isLog_loop hA hlow hg (by omega) (fun q e kn K => ?_) (fun e kn K q => ?_) 0 (by omega) (by omega) (fun j h2 h3 => by omega)
    · ((try (conv => cbv)); repeat (refine brk_ok hA ?_; (try (conv => cbv))))
      exact hQ _ (yes ⟨by omega, fun i h2 h3 => q i h2 (by omega)⟩)
    · ((try (conv => cbv)); repeat (refine brk_ok hA ?_; (try (conv => cbv))))
      obtain ⟨i, h2, h3, h4⟩ := q
      exact hQ _ (no (fun q => h4 (q.2 i h2 (by omega))))

theorem rlog_loop {h : AHeap} {a : Option Addr} {m c : Nat} {l : List Comp} (hg : Log h a m l) (hm : (m : Int) ≤ 9223372036854775807) {n : Int} {Q : Exit → SS → Prop}
    (h0 : (∀ i : Int, 0 ≤ i → i < m → compP n (ca l i)) → Q (.exit 0) ⟨[(1, .slice a m c)], 0, [], h⟩) (h1 : ∀ e kn K, (∃ i : Int, 0 ≤ i ∧ i < m ∧ ¬ compP n (ca l i)) → Q .ret ⟨(4, .bool false) :: e, kn, K, h⟩) :
    ∀ i : Int, 0 ≤ i → i ≤ m → (∀ j : Int, 0 ≤ j → j < i → compP n (ca l j)) → head 28 2 0 ⟨[(0, .int .i64 n), (1, .slice a m c), (5, .int .i64 i)], 0, [], h⟩ Q := by
  have hl := hg.len
  refine countUp (fun i hi0 him ih hall => ?_)
  refine hA.roundR Try.func28 r28_ok ?_; (try (conv => cbv)); repeat (refine brk_ok hA ?_; (try (conv => cbv)))
  refine br (i < m) (by rw [e_lss hA, e_ofNat hA]) (fun c1 => ?_) (fun c1 => ?_) <;> (try (conv => cbv)) <;> repeat (refine brk_ok hA ?_; (try (conv => cbv)))
  · obtain ⟨b, o, x, y, f, rfl, hb, hca, _, hrx, hry, hrf⟩ := hg.at hi0 c1
    have bad : ¬ compP n ⟨x, y, f⟩ → ∃ i : Int, 0 ≤ i ∧ i < m ∧ ¬ compP n (ca l i) := fun q => ⟨i, hi0, c1, by rw [hca]; exact q⟩
    refine ⟨b, o, rfl, in_ok hA hi0 c1, ?_⟩
    ((try (conv => cbv)); repeat (refine brk_ok hA ?_; (try (conv => cbv))))
    refine ⟨x, rd_fld hA hrx, ?_⟩
    ((try (conv => cbv)); repeat (refine brk_ok hA ?_; (try (conv => cbv))))
    refine br (x < 0) (e_lss hA _ _) (fun c2 => ?_) (fun c2 => ?_) <;> (try (conv => cbv)) <;> repeat (refine brk_ok hA ?_; (try (conv => cbv)))
    · exact h1 _ _ _ (bad (fun q => by have := q.1; simp only [] at this; omega))
    refine ⟨b, o, rfl, in_ok hA hi0 c1, ?_⟩
    ((try (conv => cbv)); repeat (refine brk_ok hA ?_; (try (conv => cbv))))
    refine ⟨x, rd_fld hA hrx, ?_⟩
    ((try (conv => cbv)); repeat (refine brk_ok hA ?_; (try (conv => cbv))))
    refine br (n ≤ x) (e_geq hA _ _) (fun c3 => ?_) (fun c3 => ?_) <;> (try (conv => cbv)) <;> repeat (refine brk_ok hA ?_; (try (conv => cbv)))
    · exact h1 _ _ _ (bad (fun q => by have := q.2.1; simp only [] at this; omega))
    refine ⟨b, o, rfl, in_ok hA hi0 c1, ?_⟩
    ((try (conv => cbv)); repeat (refine brk_ok hA ?_; (try (conv => cbv))))
    refine ⟨y, rd_fld hA hry, ?_⟩
    ((try (conv => cbv)); repeat (refine brk_ok hA ?_; (try (conv => cbv))))
    refine br (y < 0) (e_lss hA _ _) (fun c4 => ?_) (fun c4 => ?_) <;> (try (conv => cbv)) <;> repeat (refine brk_ok hA ?_; (try (conv => cbv)))
    · exact h1 _ _ _ (bad (fun q => by have := q.2.2.1; simp only [] at this; omega))
    refine ⟨b, o, rfl, in_ok hA hi0 c1, ?_⟩
    ((try (conv => cbv)); repeat (refine brk_ok hA ?_; (try (conv => cbv))))
    refine ⟨y, rd_fld hA hry, ?_⟩
    ((try (conv => cbv)); repeat (refine brk_ok hA ?_; (try (conv => cbv))))
    refine br (n ≤ y) (e_geq hA _ _) (fun c5 => ?_) (fun c5 => ?_) <;> (try (conv => cbv)) <;> repeat (refine brk_ok hA ?_; (try (conv => cbv)))
    · exact h1 _ _ _ (bad (fun q => by have := q.2.2.2.1; simp only [] at this; omega))
    refine ⟨b, o, rfl, in_ok hA hi0 c1, ?_⟩
    ((try (conv => cbv)); repeat (refine brk_ok hA ?_; (try (conv => cbv))))
    refine ⟨f, rd_fld hA hrf, ?_⟩
    ((try (conv => cbv)); repeat (refine brk_ok hA ?_; (try (conv => cbv))))
    refine br (f < -1000000000) (e_lss hA _ _) (fun c6 => ?_) (fun c6 => ?_) <;> (try (conv => cbv)) <;> repeat (refine brk_ok hA ?_; (try (conv => cbv)))
    · exact h1 _ _ _ (bad (fun q => by have := q.2.2.2.2.1; simp only [] at this; omega))
    refine ⟨b, o, rfl, in_ok hA hi0 c1, ?_⟩
    ((try (conv => cbv)); repeat (refine brk_ok hA ?_; (try (conv => cbv))))
    refine ⟨f, rd_fld hA hrf, ?_⟩
    ((try (conv => cbv)); repeat (refine brk_ok hA ?_; (try (conv => cbv))))
    refine br (1000000000 < f) (e_gtr hA _ _) (fun c7 => ?_) (fun c7 => ?_) <;> (try (conv => cbv)) <;> repeat (refine brk_ok hA ?_; (try (conv => cbv)))
    · exact h1 _ _ _ (bad (fun q => by have := q.2.2.2.2.2; simp only [] at this; omega))
    rw [add64 hA (by omega) (by omega)]
    refine ih c1 (fun j h2 h3 => ?_)
    by_cases e : j = i
    · rw [e, hca]; exact ⟨by simp only []; omega, by simp only []; omega, by simp only []; omega, by simp only []; omega, by unfold within; simp only []; omega⟩
    · exact hall j h2 (by omega)
  · exact h0 (fun j h2 h3 => hall j h2 (by omega))

theorem rlog_ok2 {h : AHeap} (hlow : h.low ≤ h.next) {a : Option Addr} {m c : Nat} {l : List Comp} (hg : Log h a m l) (hm : (m : Int) ≤ 9223372036854775807) {n : Int} {Q : Value → AHeap → Prop}
    (hQ : ∀ r : Bool, (r = true ↔ logP n l) → Q (.bool r) h) : call 28 [.int .i64 n, .slice a m c] h Q := by
  have hl := hg.len
  refine hA.bodyR Try.func28 r28_ok (show prims _ _ _ = none from rfl) hlow ?_; (try (conv => cbv)); repeat (refine brk_ok hA ?_; (try (conv => cbv)))
  refine rlog_loop hA hg hm (fun q => ?_) (fun e kn K q => ?_) 0 (by omega) (by omega) (fun j h2 h3 => by omega)
  · ((try (conv => cbv)); repeat (refine brk_ok hA ?_; (try (conv => cbv))))
    refine hQ _ ?_
    rw [e_leq hA, e_ofNat hA]
    unfold logP
    simp only [decide_eq_true_eq]
    rw [hl]
    exact ⟨fun h => ⟨h, q⟩, fun h => h.1⟩
  · ((try (conv => cbv)); repeat (refine brk_ok hA ?_; (try (conv => cbv))))
    obtain ⟨i, h2, h3, h4⟩ := q
    exact hQ _ (no (fun q => h4 (q.2 i h2 (by omega))))
theorem rlog_ok {h : AHeap} (hlow : h.low ≤ h.next) {a : Option Addr} {m c : Nat} {l : List Comp} (hg : Log h a m l) (hm : (m : Int) ≤ 1000) {n : Int} {Q : Value → AHeap → Prop}
    (hQ : ∀ r : Bool, (r = true ↔ logP n l) → Q (.bool r) h) : call 28 [.int .i64 n, .slice a m c] h Q := rlog_ok2 hA hlow hg (by omega) hQ

end Go.Proofs.Ytogofeppflindaa
