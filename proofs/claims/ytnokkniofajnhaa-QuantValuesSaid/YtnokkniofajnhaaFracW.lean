/-
  fringeref01: lowest terms, Make.
-/
import Derived.Test.YtnokkniofajnhaaFracU
namespace Go.Proofs.Ytnokkniofajnhaa
open Go.Sim
set_option linter.unusedVariables false
set_option maxRecDepth 100000

variable {F : Prims}
  {call : FuncId → List Value → AHeap → (Value → AHeap → Prop) → Prop}
  {head : FuncId → Nat → Nat → SS → (Exit → SS → Prop) → Prop}
  {arith : BinOp → IntKind → Int → Int → Int}
  {cmp : BinOp → Int → Int → Bool}
  {scmp : BinOp → ByteArray → ByteArray → Bool}
  {bnot : Bool → Bool}
  {bsame : Bool → Bool → Bool}
  {conv : IntKind → Int → Int}
  {neg : IntKind → Int → Int}
  {imax : Int → Int → Int}
  {imin : Int → Int → Int}
  {ofNat : Nat → Int}
  {slen : ByteArray → Int}
  {place : Nat → Int → Nat → Nat}
  {inR : Int → Nat → Prop}
  {nz : Int → Prop}
  {geZ : Int → Prop}
  {rd : AHeap → Nat → Nat → Nat → List Value → Prop}
  {wr : AHeap → Nat → Nat → List Value → AHeap → Prop}
  {push : AHeap → Nat → List Value → AHeap}
  {next : AHeap → Nat}
  {mkOK : Int → Int → Prop}
  {nat : Int → Nat}
  {zeros : List Value → Int → List Value}
  {sadd : ByteArray → ByteArray → (ByteArray → Prop) → Prop}
  {eqAgg : TypeId → Array Value → Array Value → (Bool → Prop) → Prop}
  {cut : Nat → Int → Prop}
  {slc : TypeId → Value → Option Value → Option Value → Option Value → (Option Addr → Nat → Nat → Prop) → Prop}
  {sslc : TypeId → ByteArray → Option Value → Option Value → (ByteArray → Prop) → Prop}
  {strAt : ByteArray → Int → (Int → Prop) → Prop}
  {part : TypeId → Array Value → Nat → Value → Prop}
  {app : List TypeId → List Value → AHeap → (Option Addr → Nat → Nat → AHeap → Prop) → Prop}
  {cpy : List TypeId → List Value → AHeap → (Int → AHeap → Prop) → Prop}
  {putAt : AHeap → Nat → Nat → List Value → AHeap}
  {fresh : AHeap → AHeap}
  {lowered : AHeap → AHeap → AHeap}
  {bump : AHeap → Nat → AHeap}
  {wrote : AHeap → AHeap → Bool}
  {addN : Nat → Nat → Nat}
  {lt : Nat → Nat → Prop}
  {ne : Nat → Nat → Prop}
  {fpAll : Bool → Bool → Bool → Nat → Nat → Prop}
  {brk : (Unit → Prop) → Prop}
  {yn : Nat → Nat}
  {rng : FuncId → Nat → SS → (Exit → SS → Prop) → Prop}
  {mget : TypeId → Value → Value → AHeap → Value → Bool → Prop}
  {mput : TypeId → Value → Value → Value → AHeap → AHeap → Prop}
  {mnew : AHeap → AHeap}
  {bytes : TypeId → TypeId → Option Addr → Nat → AHeap → ByteArray → Prop}
  {clr : List TypeId → List Value → AHeap → AHeap → Prop}
  (hA : AP F ⟨call, head, arith, cmp, scmp, bnot, bsame, conv, neg, imax, imin, ofNat, slen, place, inR, nz, geZ, rd, wr, push, next, mkOK, nat, zeros, sadd, eqAgg, cut, slc, sslc, strAt, part, app, cpy, putAt, fresh, lowered, bump, wrote, addN, lt, ne, fpAll, brk, yn, rng, mget, mput, mnew, bytes, clr⟩)
include hA

theorem small_ok {h : AHeap} (hlow : h.low ≤ h.next) {a0 a1 a2 a3 N : Int} (hN : Dig4 N a0 a1 a2 a3) {Q : Value → AHeap → Prop}
    (hQ : ∀ (v : Int) (r : Bool) h', (r = true ↔ N ≤ 1000000000000000000) → (N ≤ 1000000000000000000 → v = N) → Ext h h' → Q (.tuple #[.int .i64 v, .bool r]) h') : call 69 [.agg #[.int .u64 a0, .int .u64 a1, .int .u64 a2, .int .u64 a3]] h Q := by
  obtain ⟨m1, m2, m3, m4, m5⟩ := hN
  refine hA.bodyR Try.func69 r69_ok (hA.alike _ _ _ rfl) hlow ?_; (try (conv => cbv)); repeat (refine brk_ok hA ?_; (try (conv => cbv)))
  rw [e_next hA, e_push hA]
  have e1 : Ext h (h.push 4 [Value.int .u64 a0, Value.int .u64 a1, Value.int .u64 a2, Value.int .u64 a3]) := .push _ _ _
  have o1 : Own (h.push 4 [Value.int .u64 a0, Value.int .u64 a1, Value.int .u64 a2, Value.int .u64 a3]) h.next 4 ([a0, a1, a2, a3].map (.int .u64)) := Own.push _ _ _
  generalize h.push 4 [Value.int .u64 a0, Value.int .u64 a1, Value.int .u64 a2, Value.int .u64 a3] = h1 at *
  have r0 : rd h1 h.next (place (addN 0 0) 0 1) 1 [.int .u64 a0] := rd_dig hA o1 rfl (z := 0) (by omega) (by omega)
  have r1 : rd h1 h.next (place (addN 0 0) 1 1) 1 [.int .u64 a1] := rd_dig hA o1 rfl (z := 1) (by omega) (by omega)
  have r2 : rd h1 h.next (place (addN 0 0) 2 1) 1 [.int .u64 a2] := rd_dig hA o1 rfl (z := 2) (by omega) (by omega)
  have r3 : rd h1 h.next (place (addN 0 0) 3 1) 1 [.int .u64 a3] := rd_dig hA o1 rfl (z := 3) (by omega) (by omega)
  obtain ⟨b, hb⟩ : ∃ z, z = h.next := ⟨_, rfl⟩
  rw [← hb] at r0 r1 r2 r3 ⊢
  refine ⟨in_ok hA (by omega) (by omega), ?_⟩
  ((try (conv => cbv)); repeat (refine brk_ok hA ?_; (try (conv => cbv))))
  refine ⟨a1, r1, ?_⟩
  ((try (conv => cbv)); repeat (refine brk_ok hA ?_; (try (conv => cbv))))
  refine ⟨geZ_ok hA (by omega), ?_⟩
  ((try (conv => cbv)); repeat (refine brk_ok hA ?_; (try (conv => cbv))))
  refine ⟨in_ok hA (by omega) (by omega), ?_⟩
  ((try (conv => cbv)); repeat (refine brk_ok hA ?_; (try (conv => cbv))))
  refine ⟨a0, r0, ?_⟩
  ((try (conv => cbv)); repeat (refine brk_ok hA ?_; (try (conv => cbv))))
  obtain ⟨L, hL⟩ : ∃ z, z = a1 * 4294967296 + a0 := ⟨_, rfl⟩
  have es : arith .shl .u64 a1 32 = a1 * 2 ^ 32 := by rw [shlU hA a1 32 (by omega) (by rfl)]; exact Int.emod_eq_of_lt (by omega) (by omega)
  have eo : arith .or .u64 (a1 * 2 ^ 32) a0 = L := by rw [orU hA 32 m3.1 m2.1 (by omega) (by omega), hL]; omega
  rw [es, eo]
  refine ⟨in_ok hA (by omega) (by omega), ?_⟩
  ((try (conv => cbv)); repeat (refine brk_ok hA ?_; (try (conv => cbv))))
  refine ⟨a2, r2, ?_⟩
  ((try (conv => cbv)); repeat (refine brk_ok hA ?_; (try (conv => cbv))))
  have em : arith .and .u64 L 9223372036854775807 = L % 9223372036854775808 := maskU hA (by omega) (by omega) 63 (by omega) (by rfl)
  have ec : conv .i64 (L % 9223372036854775808) = L % 9223372036854775808 := conv64 hA (by omega) (by omega)
  refine br (a2 = 0) (by rw [e_eql hA]) (fun c2 => ?_) (fun c2 => ?_) <;> (try (conv => cbv)) <;> repeat (refine brk_ok hA ?_; (try (conv => cbv)))
  rotate_left
  · exact hQ _ _ h1 ⟨(fun q => by cases q), fun q => by omega⟩ (fun q => by omega) e1
  refine ⟨in_ok hA (by omega) (by omega), ?_⟩
  ((try (conv => cbv)); repeat (refine brk_ok hA ?_; (try (conv => cbv))))
  refine ⟨a3, r3, ?_⟩
  ((try (conv => cbv)); repeat (refine brk_ok hA ?_; (try (conv => cbv))))
  refine br (a3 = 0) (by rw [e_eql hA]) (fun c3 => ?_) (fun c3 => ?_) <;> (try (conv => cbv)) <;> repeat (refine brk_ok hA ?_; (try (conv => cbv)))
  rotate_left
  · exact hQ _ _ h1 ⟨(fun q => by cases q), fun q => by omega⟩ (fun q => by omega) e1
  refine hQ _ _ h1 ?_ (fun q => ?_) e1
  · rw [e_leq hA, decide_eq_true_iff]
    omega
  · rw [em, ec]
    omega

theorem lowest_ok {h : AHeap} (hlow : h.low ≤ h.next) {q : Rat} {mi : Bool} {N D a0 a1 a2 a3 b0 b1 b2 b3 : Int} (hN : Dig4 N a0 a1 a2 a3) (hD : Dig4 D b0 b1 b2 b3) (h1 : q.num = if mi = true then -N else N) (h2 : (q.den : Int) = D) {Q : Value → AHeap → Prop}
    (hQ : ∀ n d e h', outF q n d e → Ext h h' → Q (.tuple #[.agg #[.int .i64 n, .int .i64 d], .int .i64 e]) h') : call 51 [.bool mi, .agg #[.int .u64 a0, .int .u64 a1, .int .u64 a2, .int .u64 a3], .agg #[.int .u64 b0, .int .u64 b1, .int .u64 b2, .int .u64 b3]] h Q := by
  have N0 : 0 ≤ N := by obtain ⟨m1, m2, m3, m4, m5⟩ := hN; omega
  have D0 : 0 ≤ D := by obtain ⟨m1, m2, m3, m4, m5⟩ := hD; omega
  have hf : fits q ↔ N ≤ 1000000000000000000 ∧ D ≤ 1000000000000000000 := by
    unfold fits
    rw [h1, h2]
    split <;> omega
  have bt : bnot true = false := by rw [e_bnot hA]; rfl
  have bf : bnot false = true := by rw [e_bnot hA]; rfl
  refine hA.bodyR Try.func51 r51_ok (hA.alike _ _ _ rfl) hlow ?_; (try (conv => cbv)); repeat (refine brk_ok hA ?_; (try (conv => cbv)))
  refine small_ok hA hlow hN (fun v1 r1 h3 k1 k2 x3 => ⟨_, _, rfl, ?_⟩)
  ((try (conv => cbv)); repeat (refine brk_ok hA ?_; (try (conv => cbv))))
  refine small_ok hA (x3.lowOK hlow) hD (fun v2 r2 h4 k3 k4 x4 => ⟨_, _, rfl, ?_⟩)
  have x := x3.trans x4
  cases r1 with
  | false =>
    ((try (conv => cbv)); repeat (refine brk_ok hA ?_; (try (conv => cbv))))
    rw [bf]
    ((try (conv => cbv)); repeat (refine brk_ok hA ?_; (try (conv => cbv))))
    exact hQ _ _ _ h4 (.inr ⟨fun w => (by have := k1.2 (hf.1 w).1; cases this), rfl, rfl, rfl⟩) x
  | true =>
  have e1 := k2 (k1.1 rfl)
  have l1 := k1.1 rfl
  cases r2 with
  | false =>
    ((try (conv => cbv)); repeat (refine brk_ok hA ?_; (try (conv => cbv))))
    rw [bt]
    ((try (conv => cbv)); repeat (refine brk_ok hA ?_; (try (conv => cbv))))
    rw [bf]
    ((try (conv => cbv)); repeat (refine brk_ok hA ?_; (try (conv => cbv))))
    exact hQ _ _ _ h4 (.inr ⟨fun w => (by have := k3.2 (hf.1 w).2; cases this), rfl, rfl, rfl⟩) x
  | true =>
  have e2 := k4 (k3.1 rfl)
  have l2 := k3.1 rfl
  have hfit := hf.2 ⟨l1, l2⟩
  have en : neg .i64 v1 = -v1 := by rw [e_neg hA, wrap64 (by omega) (by omega)]; omega
  ((try (conv => cbv)); repeat (refine brk_ok hA ?_; (try (conv => cbv))))
  rw [bt]
  ((try (conv => cbv)); repeat (refine brk_ok hA ?_; (try (conv => cbv))))
  rw [bt]
  ((try (conv => cbv)); repeat (refine brk_ok hA ?_; (try (conv => cbv))))
  cases mi with
  | true =>
    ((try (conv => cbv)); repeat (refine brk_ok hA ?_; (try (conv => cbv))))
    rw [en]
    exact hQ _ _ _ h4 (.inl ⟨hfit, by rw [h1, if_pos rfl, e1], by rw [h2, e2], rfl⟩) x
  | false =>
    ((try (conv => cbv)); repeat (refine brk_ok hA ?_; (try (conv => cbv))))
    exact hQ _ _ _ h4 (.inl ⟨hfit, by rw [h1, e1]; simp, by rw [h2, e2], rfl⟩) x

end Go.Proofs.Ytnokkniofajnhaa
