/-
  math/bits: products and quotients of 128 bits.
-/
import Derived.Test.YtnokkniofajnhaaFracC
namespace Go.Proofs.Ytnokkniofajnhaa
open Go.Sim
set_option linter.unusedVariables false
set_option maxRecDepth 100000

/-- The table of bit lengths. -/
def tabOK (s : ByteArray) : Bool := Nat.beq s.size 256 && (List.range 256).all fun i => Nat.blt i (2 ^ (s[i]!).toNat) && Nat.ble (2 ^ (s[i]!).toNat) (2 * Nat.max i 1) && Nat.ble (s[i]!).toNat 8
theorem tab_at {s : ByteArray} (ht : tabOK s = true) {i : Int} (h0 : 0 ≤ i) (h1 : i < 256) : ∃ n : Nat, sat s i = n ∧ i < 2 ^ n ∧ (2 : Int) ^ n ≤ 2 * max i 1 ∧ n ≤ 8 ∧ i.toNat < s.size := by
  unfold tabOK at ht
  rw [Bool.and_eq_true, List.all_eq_true] at ht
  obtain ⟨t1, t2⟩ := ht
  have hs : s.size = 256 := Nat.eq_of_beq_eq_true t1
  have t3 := t2 i.toNat (List.mem_range.2 (by omega))
  simp only [Bool.and_eq_true] at t3
  obtain ⟨⟨t4, t5⟩, t6⟩ := t3
  have t4' : i.toNat < 2 ^ (s[i.toNat]!).toNat := Nat.le_of_ble_eq_true t4
  have t5' : 2 ^ (s[i.toNat]!).toNat ≤ 2 * Nat.max i.toNat 1 := Nat.le_of_ble_eq_true t5
  have t6' : (s[i.toNat]!).toNat ≤ 8 := Nat.le_of_ble_eq_true t6
  refine ⟨(s[i.toNat]!).toNat, ?_, ?_, ?_, t6', by omega⟩
  · unfold sat
    have hi : i.toNat < s.size := by omega
    simp [hi]
  · have : ((2 ^ (s[i.toNat]!).toNat : Nat) : Int) = 2 ^ (s[i.toNat]!).toNat := by push_cast; rfl
    omega
  · have e : ((2 ^ (s[i.toNat]!).toNat : Nat) : Int) = 2 ^ (s[i.toNat]!).toNat := by push_cast; rfl
    have : Nat.max i.toNat 1 = max i.toNat 1 := rfl
    rw [← e]
    omega

/-- How many bits a number has. -/
def isLen (x n : Int) : Prop := 0 ≤ n ∧ x < 2 ^ n.toNat ∧ (2 : Int) ^ n.toNat ≤ 2 * max x 1

variable {F : Prims}
  {call : FuncId → List Value → AHeap → (Value → AHeap → Prop) → Prop}
  {head : FuncId → Nat → Nat → SS → (Exit → SS → Prop) → Prop}
  {arith : BinOp → IntKind → Int → Int → Int}
  {cmp : BinOp → Int → Int → Bool}
  {scmp : BinOp → ByteArray → ByteArray → Bool}
  {bnot : Bool → Bool}
  {bsame : Bool → Bool → Bool}
  {conv : IntKind → Int → Int}
  {neg : IntKind → Int → Int}
  {imax : Int → Int → Int}
  {imin : Int → Int → Int}
  {ofNat : Nat → Int}
  {slen : ByteArray → Int}
  {place : Nat → Int → Nat → Nat}
  {inR : Int → Nat → Prop}
  {nz : Int → Prop}
  {geZ : Int → Prop}
  {rd : AHeap → Nat → Nat → Nat → List Value → Prop}
  {wr : AHeap → Nat → Nat → List Value → AHeap → Prop}
  {push : AHeap → Nat → List Value → AHeap}
  {next : AHeap → Nat}
  {mkOK : Int → Int → Prop}
  {nat : Int → Nat}
  {zeros : List Value → Int → List Value}
  {sadd : ByteArray → ByteArray → (ByteArray → Prop) → Prop}
  {eqAgg : TypeId → Array Value → Array Value → (Bool → Prop) → Prop}
  {cut : Nat → Int → Prop}
  {slc : TypeId → Value → Option Value → Option Value → Option Value → (Option Addr → Nat → Nat → Prop) → Prop}
  {sslc : TypeId → ByteArray → Option Value → Option Value → (ByteArray → Prop) → Prop}
  {strAt : ByteArray → Int → (Int → Prop) → Prop}
  {part : TypeId → Array Value → Nat → Value → Prop}
  {app : List TypeId → List Value → AHeap → (Option Addr → Nat → Nat → AHeap → Prop) → Prop}
  {cpy : List TypeId → List Value → AHeap → (Int → AHeap → Prop) → Prop}
  {putAt : AHeap → Nat → Nat → List Value → AHeap}
  {fresh : AHeap → AHeap}
  {lowered : AHeap → AHeap → AHeap}
  {bump : AHeap → Nat → AHeap}
  {wrote : AHeap → AHeap → Bool}
  {addN : Nat → Nat → Nat}
  {lt : Nat → Nat → Prop}
  {ne : Nat → Nat → Prop}
  {fpAll : Bool → Bool → Bool → Nat → Nat → Prop}
  {brk : (Unit → Prop) → Prop}
  {yn : Nat → Nat}
  {rng : FuncId → Nat → SS → (Exit → SS → Prop) → Prop}
  {mget : TypeId → Value → Value → AHeap → Value → Bool → Prop}
  {mput : TypeId → Value → Value → Value → AHeap → AHeap → Prop}
  {mnew : AHeap → AHeap}
  {bytes : TypeId → TypeId → Option Addr → Nat → AHeap → ByteArray → Prop}
  {clr : List TypeId → List Value → AHeap → AHeap → Prop}
  (hA : AP F ⟨call, head, arith, cmp, scmp, bnot, bsame, conv, neg, imax, imin, ofNat, slen, place, inR, nz, geZ, rd, wr, push, next, mkOK, nat, zeros, sadd, eqAgg, cut, slc, sslc, strAt, part, app, cpy, putAt, fresh, lowered, bump, wrote, addN, lt, ne, fpAll, brk, yn, rng, mget, mput, mnew, bytes, clr⟩)
include hA

theorem mul64_ok {h : AHeap} (hlow : h.low ≤ h.next) {x y : Int} (hx : u64 x) (hy : u64 y) {Q : Value → AHeap → Prop}
    (hQ : ∀ hi lo : Int, hi = x * y / 18446744073709551616 → lo = x * y % 18446744073709551616 → Q (.tuple #[.int .u64 hi, .int .u64 lo]) h) : call 76 [.int .u64 x, .int .u64 y] h Q := by
  obtain ⟨x0, x1⟩ := hx
  obtain ⟨y0, y1⟩ := hy
  obtain ⟨k1, k2, k3, k4, k5, k6⟩ := mul128 x0 x1 y0 y1 rfl rfl rfl rfl rfl rfl
  refine hA.bodyR Try.func76 r76_ok (hA.alike _ _ _ rfl) hlow ?_; (try (conv => cbv)); repeat (refine brk_ok hA ?_; (try (conv => cbv)))
  refine ⟨geZ_ok hA (by omega), ?_⟩
  ((try (conv => cbv)); repeat (refine brk_ok hA ?_; (try (conv => cbv))))
  refine ⟨geZ_ok hA (by omega), ?_⟩
  ((try (conv => cbv)); repeat (refine brk_ok hA ?_; (try (conv => cbv))))
  refine ⟨geZ_ok hA (by omega), ?_⟩
  ((try (conv => cbv)); repeat (refine brk_ok hA ?_; (try (conv => cbv))))
  refine ⟨geZ_ok hA (by omega), ?_⟩
  ((try (conv => cbv)); repeat (refine brk_ok hA ?_; (try (conv => cbv))))
  refine ⟨geZ_ok hA (by omega), ?_⟩
  ((try (conv => cbv)); repeat (refine brk_ok hA ?_; (try (conv => cbv))))
  refine hQ _ _ ?_ (mulUm hA x y)
  rw [mask32 hA x0 x1, mask32 hA y0 y1, shr32 hA x0, shr32 hA y0]
  rw [mulU hA k1.1 (by omega), mulU hA k2.1 (by omega), mulU hA k3.1 (by omega), mulU hA k4.1 (by omega)]
  rw [shr32 hA k1.1]
  rw [addU hA (a := x / 4294967296 * (y % 4294967296)) (by omega) (by omega)]
  rw [mask32 hA (by omega) (by omega)]
  rw [addU hA (b := x % 4294967296 * (y / 4294967296)) (by omega) (by omega)]
  rw [shr32 hA (by omega), shr32 hA (by omega)]
  rw [addU hA (a := x / 4294967296 * (y / 4294967296)) (by omega) (by omega)]
  rw [addU hA (by omega) (by omega)]
  exact k6

end Go.Proofs.Ytnokkniofajnhaa
