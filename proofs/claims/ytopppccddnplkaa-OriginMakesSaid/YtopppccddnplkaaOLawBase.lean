/-
  What the laws share.
-/
import Derived.Test.YtopppccddnplkaaOMake
import Derived.Test.YtopppccddnplkaaOGreat
namespace Go.Proofs.Ytopppccddnplkaa
open Go.Sim
open Classical
set_option linter.unusedVariables false
set_option maxRecDepth 100000

theorem Small.ok' {l : List Rec} (h : Small l) (hr : ∀ y ∈ l, okR y) : okL l := by
  intro r hm
  obtain ⟨j, hj⟩ := List.getElem?_of_mem hm
  have hjl : j < l.length := (List.getElem?_eq_some_iff.1 hj).1
  have := h.1 j (by omega) (by omega)
  unfold rat at this
  rw [Int.toNat_natCast, List.getD, hj] at this
  exact ⟨hr r hm, Nat.le_trans this.1 (by omega), Nat.le_trans this.2.1 (by omega)⟩
theorem _root_.Go.Sim.Cells.take1 {h : AHeap} {a : Option Addr} {n : Nat} {vs : List Value} (c : Cells h a n 1 vs) {j : Nat} (hj : j ≤ n) : Cells h a j 1 (vs.take j) := by
  have hl := c.length
  cases a with
  | none =>
    obtain ⟨rfl, h2⟩ := c
    obtain rfl : j = 0 := by omega
    rw [h2]
    exact ⟨rfl, by simp⟩
  | some ad =>
    obtain ⟨h1, h2', h3'⟩ := c
    refine ⟨h1, h2', ?_⟩
    unfold AHeap.readG at h3' ⊢
    rw [h1] at h3' ⊢
    simp only [] at h3' ⊢
    cases hc : h.cells? ad.block with
    | none => rw [hc] at h3'; cases h3'
    | some cs =>
      rw [hc] at h3'
      simp only [] at h3' ⊢
      obtain ⟨q1, q2⟩ := readN_eq h3'
      refine readN_some ?_ ?_
      · rw [← q1, List.take_take, Nat.min_eq_left (by omega), Nat.mul_one]
      · rw [List.length_take]; omega
theorem Strs.take {h : AHeap} {a : Option Addr} {n c : Nat} {l : List Str} (p : Strs h a n c l) {j : Nat} (hj : j ≤ n) : Strs h a j c (l.take j) := by
  have hl := p.len
  rcases p with ⟨p, q1, q2⟩ | ⟨q1, q2, q3, q4⟩
  · refine .inl ⟨?_, q1, by omega⟩
    rw [List.map_take]
    exact p.take1 hj
  · refine .inr ⟨q1, by omega, q3, ?_⟩
    rw [List.map_take, q4]; simp

theorem make_at {l : List Rec} {ps : List Bytes} (h : AllIs l 0 (some ps)) {name : Str} {i : Int} (hi : idxOf l name = i) (i0 : 0 ≤ i) {e : Int} {r : Bytes} (hm : MakeIs l name e r) : e = 0 ∧ r = bat ps i := by
  have := hm.uniq (.inr (.inr ⟨ps, h, by omega, rfl, rfl⟩))
  rw [hi] at this
  exact this
theorem make_no {l : List Rec} {ps : List Bytes} (h : AllIs l 0 (some ps)) {name : Str} (hi : idxOf l name = -1) {e : Int} {r : Bytes} (hm : MakeIs l name e r) : e = 6 ∧ r = [] :=
  hm.uniq (.inr (.inl ⟨ps, h, hi, rfl, rfl⟩))

variable {call : FuncId → List Value → AHeap → (Value → AHeap → Prop) → Prop}
  {head : FuncId → Nat → Nat → SS → (Exit → SS → Prop) → Prop}
  {arith : BinOp → IntKind → Int → Int → Int}
  {cmp : BinOp → Int → Int → Bool}
  {scmp : BinOp → ByteArray → ByteArray → Bool}
  {bnot : Bool → Bool}
  {bsame : Bool → Bool → Bool}
  {conv : IntKind → Int → Int}
  {neg : IntKind → Int → Int}
  {imax : Int → Int → Int}
  {imin : Int → Int → Int}
  {ofNat : Nat → Int}
  {slen : ByteArray → Int}
  {place : Nat → Int → Nat → Nat}
  {inR : Int → Nat → Prop}
  {nz : Int → Prop}
  {geZ : Int → Prop}
  {rd : AHeap → Nat → Nat → Nat → List Value → Prop}
  {wr : AHeap → Nat → Nat → List Value → AHeap → Prop}
  {push : AHeap → Nat → List Value → AHeap}
  {next : AHeap → Nat}
  {mkOK : Int → Int → Prop}
  {nat : Int → Nat}
  {zeros : List Value → Int → List Value}
  {sadd : ByteArray → ByteArray → (ByteArray → Prop) → Prop}
  {eqAgg : TypeId → Array Value → Array Value → (Bool → Prop) → Prop}
  {cut : Nat → Int → Prop}
  {slc : TypeId → Value → Option Value → Option Value → Option Value → (Option Addr → Nat → Nat → Prop) → Prop}
  {sslc : TypeId → ByteArray → Option Value → Option Value → (ByteArray → Prop) → Prop}
  {strAt : ByteArray → Int → (Int → Prop) → Prop}
  {part : TypeId → Array Value → Nat → Value → Prop}
  {app : List TypeId → List Value → AHeap → (Option Addr → Nat → Nat → AHeap → Prop) → Prop}
  {cpy : List TypeId → List Value → AHeap → (Int → AHeap → Prop) → Prop}
  {putAt : AHeap → Nat → Nat → List Value → AHeap}
  {fresh : AHeap → AHeap}
  {lowered : AHeap → AHeap → AHeap}
  {bump : AHeap → Nat → AHeap}
  {wrote : AHeap → AHeap → Bool}
  {addN : Nat → Nat → Nat}
  {lt : Nat → Nat → Prop}
  {ne : Nat → Nat → Prop}
  {fpAll : Bool → Bool → Bool → Nat → Nat → Prop}
  {brk : (Unit → Prop) → Prop}
  {yn : Nat → Nat}
  {rng : FuncId → Nat → SS → (Exit → SS → Prop) → Prop}
  {mget : TypeId → Value → Value → AHeap → Value → Bool → Prop}
  {mput : TypeId → Value → Value → Value → AHeap → AHeap → Prop}
  {mnew : AHeap → AHeap}
  {bytes : TypeId → TypeId → Option Addr → Nat → AHeap → ByteArray → Prop}
  {clr : List TypeId → List Value → AHeap → AHeap → Prop}
  (hA : AOK progU hint prims ⟨call, head, arith, cmp, scmp, bnot, bsame, conv, neg, imax, imin, ofNat, slen, place, inR, nz, geZ, rd, wr, push, next, mkOK, nat, zeros, sadd, eqAgg, cut, slc, sslc, strAt, part, app, cpy, putAt, fresh, lowered, bump, wrote, addN, lt, ne, fpAll, brk, yn, rng, mget, mput, mnew, bytes, clr⟩)
include hA

theorem alive_ok {h : AHeap} {Q : Value → AHeap → Prop} (hQ : Q (.bool true) h) : call 30 [] h Q := hA.prim (v := .bool true) (h' := h) rfl hQ

end Go.Proofs.Ytopppccddnplkaa
