/-
  frac: sums and differences.
-/
import Derived.Test.YtnokkniofajnhaaFracH
namespace Go.Proofs.Ytnokkniofajnhaa
open Go.Sim
set_option linter.unusedVariables false
set_option maxRecDepth 100000

theorem prim_add {x y c : Int} (hx : 0 ≤ x) (hy : 0 ≤ y) (hc : 0 ≤ c ∧ c ≤ 1) (h : AHeap) : prims0 80 [.int .u64 x, .int .u64 y, .int .u64 c] h = some (.tuple #[.int .u64 ((x + y + c) % 18446744073709551616), .int .u64 ((x + y + c) / 18446744073709551616)], h) := by
  have e : add64F [.int .u64 x, .int .u64 y, .int .u64 c] = some (.tuple #[.int .u64 ((x + y + c) % 18446744073709551616), .int .u64 ((x + y + c) / 18446744073709551616)]) := by
    show (if 0 ≤ x ∧ 0 ≤ y ∧ 0 ≤ c ∧ c ≤ 1 then some _ else none) = _
    rw [if_pos ⟨hx, hy, hc.1, hc.2⟩]
  have p : prims0 80 [.int .u64 x, .int .u64 y, .int .u64 c] h = withFn 80 add64F (withFn 82 sub64F noPrims) 80 [.int .u64 x, .int .u64 y, .int .u64 c] h := rfl
  rw [p]
  unfold withFn
  rw [e]
  rfl
theorem prim_sub {x y c : Int} (hx : u64 x) (hy : u64 y) (hc : 0 ≤ c ∧ c ≤ 1) (h : AHeap) : prims0 82 [.int .u64 x, .int .u64 y, .int .u64 c] h = some (.tuple #[.int .u64 ((x - y - c) % 18446744073709551616), .int .u64 (if x < y + c then 1 else 0)], h) := by
  have e : sub64F [.int .u64 x, .int .u64 y, .int .u64 c] = some (.tuple #[.int .u64 ((x - y - c) % 18446744073709551616), .int .u64 (if x < y + c then 1 else 0)]) := by
    obtain ⟨x0, x1⟩ := hx
    obtain ⟨y0, y1⟩ := hy
    show (if 0 ≤ x ∧ 0 ≤ y ∧ 0 ≤ c ∧ c ≤ 1 then some _ else none) = _
    rw [if_pos ⟨x0, y0, hc.1, hc.2⟩]
    have e1 : Int.ofNat ((x.toNat + 18446744073709551616 - y.toNat - c.toNat) % 18446744073709551616) = (x - y - c) % 18446744073709551616 := by
      show (((x.toNat + 18446744073709551616 - y.toNat - c.toNat) % 18446744073709551616 : Nat) : Int) = _
      omega
    have e2 : Int.ofNat (if x.toNat < y.toNat + c.toNat then 1 else 0) = if x < y + c then 1 else 0 := by
      by_cases w : x < y + c
      · rw [if_pos w, if_pos (by omega)]; rfl
      · rw [if_neg w, if_neg (by omega)]; rfl
    rw [e1, e2]
  have p : prims0 82 [.int .u64 x, .int .u64 y, .int .u64 c] h = withFn 82 sub64F noPrims 82 [.int .u64 x, .int .u64 y, .int .u64 c] h := rfl
  rw [p]
  unfold withFn
  rw [e]
  rfl

variable {F : Prims}
  {call : FuncId → List Value → AHeap → (Value → AHeap → Prop) → Prop}
  {head : FuncId → Nat → Nat → SS → (Exit → SS → Prop) → Prop}
  {arith : BinOp → IntKind → Int → Int → Int}
  {cmp : BinOp → Int → Int → Bool}
  {scmp : BinOp → ByteArray → ByteArray → Bool}
  {bnot : Bool → Bool}
  {bsame : Bool → Bool → Bool}
  {conv : IntKind → Int → Int}
  {neg : IntKind → Int → Int}
  {imax : Int → Int → Int}
  {imin : Int → Int → Int}
  {ofNat : Nat → Int}
  {slen : ByteArray → Int}
  {place : Nat → Int → Nat → Nat}
  {inR : Int → Nat → Prop}
  {nz : Int → Prop}
  {geZ : Int → Prop}
  {rd : AHeap → Nat → Nat → Nat → List Value → Prop}
  {wr : AHeap → Nat → Nat → List Value → AHeap → Prop}
  {push : AHeap → Nat → List Value → AHeap}
  {next : AHeap → Nat}
  {mkOK : Int → Int → Prop}
  {nat : Int → Nat}
  {zeros : List Value → Int → List Value}
  {sadd : ByteArray → ByteArray → (ByteArray → Prop) → Prop}
  {eqAgg : TypeId → Array Value → Array Value → (Bool → Prop) → Prop}
  {cut : Nat → Int → Prop}
  {slc : TypeId → Value → Option Value → Option Value → Option Value → (Option Addr → Nat → Nat → Prop) → Prop}
  {sslc : TypeId → ByteArray → Option Value → Option Value → (ByteArray → Prop) → Prop}
  {strAt : ByteArray → Int → (Int → Prop) → Prop}
  {part : TypeId → Array Value → Nat → Value → Prop}
  {app : List TypeId → List Value → AHeap → (Option Addr → Nat → Nat → AHeap → Prop) → Prop}
  {cpy : List TypeId → List Value → AHeap → (Int → AHeap → Prop) → Prop}
  {putAt : AHeap → Nat → Nat → List Value → AHeap}
  {fresh : AHeap → AHeap}
  {lowered : AHeap → AHeap → AHeap}
  {bump : AHeap → Nat → AHeap}
  {wrote : AHeap → AHeap → Bool}
  {addN : Nat → Nat → Nat}
  {lt : Nat → Nat → Prop}
  {ne : Nat → Nat → Prop}
  {fpAll : Bool → Bool → Bool → Nat → Nat → Prop}
  {brk : (Unit → Prop) → Prop}
  {yn : Nat → Nat}
  {rng : FuncId → Nat → SS → (Exit → SS → Prop) → Prop}
  {mget : TypeId → Value → Value → AHeap → Value → Bool → Prop}
  {mput : TypeId → Value → Value → Value → AHeap → AHeap → Prop}
  {mnew : AHeap → AHeap}
  {bytes : TypeId → TypeId → Option Addr → Nat → AHeap → ByteArray → Prop}
  {clr : List TypeId → List Value → AHeap → AHeap → Prop}
  (hA : AP F ⟨call, head, arith, cmp, scmp, bnot, bsame, conv, neg, imax, imin, ofNat, slen, place, inR, nz, geZ, rd, wr, push, next, mkOK, nat, zeros, sadd, eqAgg, cut, slc, sslc, strAt, part, app, cpy, putAt, fresh, lowered, bump, wrote, addN, lt, ne, fpAll, brk, yn, rng, mget, mput, mnew, bytes, clr⟩)
include hA

theorem add64_ok {h : AHeap} {x y c : Int} (hx : 0 ≤ x) (hy : 0 ≤ y) (hc : 0 ≤ c ∧ c ≤ 1) {Q : Value → AHeap → Prop} (hQ : ∀ s k : Int, s = (x + y + c) % 18446744073709551616 → k = (x + y + c) / 18446744073709551616 → Q (.tuple #[.int .u64 s, .int .u64 k]) h) : call 80 [.int .u64 x, .int .u64 y, .int .u64 c] h Q :=
  hA.prim ((hA.alike _ _ _ rfl).trans (prim_add hx hy hc h)) (hQ _ _ rfl rfl)
theorem sub64_ok {h : AHeap} {x y c : Int} (hx : u64 x) (hy : u64 y) (hc : 0 ≤ c ∧ c ≤ 1) {Q : Value → AHeap → Prop} (hQ : ∀ s k : Int, s = (x - y - c) % 18446744073709551616 → k = (if x < y + c then 1 else 0) → Q (.tuple #[.int .u64 s, .int .u64 k]) h) : call 82 [.int .u64 x, .int .u64 y, .int .u64 c] h Q :=
  hA.prim ((hA.alike _ _ _ rfl).trans (prim_sub hx hy hc h)) (hQ _ _ rfl rfl)

end Go.Proofs.Ytnokkniofajnhaa
