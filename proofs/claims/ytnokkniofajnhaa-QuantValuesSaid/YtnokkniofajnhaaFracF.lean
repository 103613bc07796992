/-
  math/bits: how many bits a number has; quotients of 128 bits.
-/
import Derived.Test.YtnokkniofajnhaaFracE
import Derived.KernelRfl
namespace Go.Proofs.Ytnokkniofajnhaa
open Go.Sim
set_option linter.unusedVariables false
set_option maxRecDepth 100000

theorem isLen_of {x w K c : Int} {t k : Nat} (hx : 0 ≤ x) (hw : w = x / K) (hK : K = 2 ^ k) (hz : k = 0 ∨ 1 ≤ w) (q1 : w < 2 ^ t) (q2 : (2 : Int) ^ t ≤ 2 * max w 1) (hc : c = t) : isLen x (k + c) := by
  have e : ((k : Int) + c).toNat = k + t := by omega
  have hp : (0 : Int) < 2 ^ t := Int.pow_pos (by omega)
  have hkp : (0 : Int) < K := by rw [hK]; exact Int.pow_pos (by omega)
  refine ⟨by omega, ?_, ?_⟩ <;> rw [e, Int.pow_add, ← hK]
  · have h1 : w + 1 ≤ 2 ^ t := by omega
    have h2 := Int.mul_le_mul_of_nonneg_left h1 (Int.le_of_lt hkp)
    have h3 := Int.lt_mul_ediv_self_add (x := x) hkp
    rw [← hw] at h3
    have h4 : K * (w + 1) = K * w + K := by grind
    omega
  · rcases hz with rfl | hz
    · have : K = 1 := by rw [hK]; rfl
      subst this
      rw [Int.ediv_one] at hw
      rw [Int.one_mul, ← hw]; exact q2
    · have h1 : (2 : Int) ^ t ≤ 2 * w := by omega
      have h2 := Int.mul_le_mul_of_nonneg_left h1 (Int.le_of_lt hkp)
      have h3 := Int.mul_ediv_self_le (x := x) (k := K) (by omega)
      rw [← hw] at h3
      have h4 : K * (2 * w) = 2 * (K * w) := by grind
      omega

variable {F : Prims}
  {call : FuncId → List Value → AHeap → (Value → AHeap → Prop) → Prop}
  {head : FuncId → Nat → Nat → SS → (Exit → SS → Prop) → Prop}
  {arith : BinOp → IntKind → Int → Int → Int}
  {cmp : BinOp → Int → Int → Bool}
  {scmp : BinOp → ByteArray → ByteArray → Bool}
  {bnot : Bool → Bool}
  {bsame : Bool → Bool → Bool}
  {conv : IntKind → Int → Int}
  {neg : IntKind → Int → Int}
  {imax : Int → Int → Int}
  {imin : Int → Int → Int}
  {ofNat : Nat → Int}
  {slen : ByteArray → Int}
  {place : Nat → Int → Nat → Nat}
  {inR : Int → Nat → Prop}
  {nz : Int → Prop}
  {geZ : Int → Prop}
  {rd : AHeap → Nat → Nat → Nat → List Value → Prop}
  {wr : AHeap → Nat → Nat → List Value → AHeap → Prop}
  {push : AHeap → Nat → List Value → AHeap}
  {next : AHeap → Nat}
  {mkOK : Int → Int → Prop}
  {nat : Int → Nat}
  {zeros : List Value → Int → List Value}
  {sadd : ByteArray → ByteArray → (ByteArray → Prop) → Prop}
  {eqAgg : TypeId → Array Value → Array Value → (Bool → Prop) → Prop}
  {cut : Nat → Int → Prop}
  {slc : TypeId → Value → Option Value → Option Value → Option Value → (Option Addr → Nat → Nat → Prop) → Prop}
  {sslc : TypeId → ByteArray → Option Value → Option Value → (ByteArray → Prop) → Prop}
  {strAt : ByteArray → Int → (Int → Prop) → Prop}
  {part : TypeId → Array Value → Nat → Value → Prop}
  {app : List TypeId → List Value → AHeap → (Option Addr → Nat → Nat → AHeap → Prop) → Prop}
  {cpy : List TypeId → List Value → AHeap → (Int → AHeap → Prop) → Prop}
  {putAt : AHeap → Nat → Nat → List Value → AHeap}
  {fresh : AHeap → AHeap}
  {lowered : AHeap → AHeap → AHeap}
  {bump : AHeap → Nat → AHeap}
  {wrote : AHeap → AHeap → Bool}
  {addN : Nat → Nat → Nat}
  {lt : Nat → Nat → Prop}
  {ne : Nat → Nat → Prop}
  {fpAll : Bool → Bool → Bool → Nat → Nat → Prop}
  {brk : (Unit → Prop) → Prop}
  {yn : Nat → Nat}
  {rng : FuncId → Nat → SS → (Exit → SS → Prop) → Prop}
  {mget : TypeId → Value → Value → AHeap → Value → Bool → Prop}
  {mput : TypeId → Value → Value → Value → AHeap → AHeap → Prop}
  {mnew : AHeap → AHeap}
  {bytes : TypeId → TypeId → Option Addr → Nat → AHeap → ByteArray → Prop}
  {clr : List TypeId → List Value → AHeap → AHeap → Prop}
  (hA : AP F ⟨call, head, arith, cmp, scmp, bnot, bsame, conv, neg, imax, imin, ofNat, slen, place, inR, nz, geZ, rd, wr, push, next, mkOK, nat, zeros, sadd, eqAgg, cut, slc, sslc, strAt, part, app, cpy, putAt, fresh, lowered, bump, wrote, addN, lt, ne, fpAll, brk, yn, rng, mget, mput, mnew, bytes, clr⟩)
include hA

theorem strAt_tab {s : ByteArray} (ht : tabOK s = true) {w : Int} (h0 : 0 ≤ w) (h1 : w < 256) {C : Int → Prop} (hC : ∀ (t : Nat) (c : Int), c = t → w < 2 ^ t → (2 : Int) ^ t ≤ 2 * max w 1 → t ≤ 8 → C c) : strAt s w C := by
  obtain ⟨t, q1, q2, q3, q4, q5⟩ := tab_at ht h0 h1
  exact strAt_ok hA h0 (by omega) (fun c hc _ _ => hC t c (by rw [hc, q1]) q2 q3 q4)

theorem len64_ok {h : AHeap} (hlow : h.low ≤ h.next) {x : Int} (hx : u64 x) {Q : Value → AHeap → Prop} (hQ : ∀ n : Int, isLen x n → Q (.int .i64 n) h) : call 98 [.int .u64 x] h Q := by
  obtain ⟨x0, x1⟩ := hx
  refine hA.bodyR Try.func98 r98_ok (hA.alike _ _ _ rfl) hlow ?_; (try (conv => cbv)); repeat (refine brk_ok hA ?_; (try (conv => cbv)))
  refine br (4294967296 ≤ x) (by rw [e_geq hA]) (fun c32 => ?_) (fun c32 => ?_) <;> (try (conv => cbv)) <;> repeat (refine brk_ok hA ?_; (try (conv => cbv)))
  · refine ⟨geZ_ok hA (by omega), ?_⟩
    ((try (conv => cbv)); repeat (refine brk_ok hA ?_; (try (conv => cbv))))
    have hs32 : arith .shr .u64 x 32 = x / 4294967296 := shrU hA (by omega) 32 (by omega) (by rfl)
    rw [hs32]
    obtain ⟨z, hz⟩ : ∃ q, q = x / 4294967296 := ⟨_, rfl⟩
    rw [← hz]
    ((try (conv => cbv)); repeat (refine brk_ok hA ?_; (try (conv => cbv))))
    refine br (65536 ≤ z) (by rw [e_geq hA]) (fun c16 => ?_) (fun c16 => ?_) <;> (try (conv => cbv)) <;> repeat (refine brk_ok hA ?_; (try (conv => cbv)))
    · refine ⟨geZ_ok hA (by omega), ?_⟩
      ((try (conv => cbv)); repeat (refine brk_ok hA ?_; (try (conv => cbv))))
      have hs16 : arith .shr .u64 z 16 = z / 65536 := shrU hA (by omega) 16 (by omega) (by rfl)
      rw [hs16]
      obtain ⟨y, hy⟩ : ∃ q, q = z / 65536 := ⟨_, rfl⟩
      rw [← hy]
      have en16 : arith .add .i64 32 16 = 48 := add64 hA (by omega) (by omega)
      ((try (conv => cbv)); repeat (refine brk_ok hA ?_; (try (conv => cbv))))
      rw [en16]
      ((try (conv => cbv)); repeat (refine brk_ok hA ?_; (try (conv => cbv))))
      refine br (256 ≤ y) (by rw [e_geq hA]) (fun c8 => ?_) (fun c8 => ?_) <;> (try (conv => cbv)) <;> repeat (refine brk_ok hA ?_; (try (conv => cbv)))
      · refine ⟨geZ_ok hA (by omega), ?_⟩
        ((try (conv => cbv)); repeat (refine brk_ok hA ?_; (try (conv => cbv))))
        have hs8 : arith .shr .u64 y 8 = y / 256 := shrU hA (by omega) 8 (by omega) (by rfl)
        rw [hs8]
        obtain ⟨w0, hw0⟩ : ∃ q, q = y / 256 := ⟨_, rfl⟩
        rw [← hw0]
        have en8 : arith .add .i64 48 8 = 56 := add64 hA (by omega) (by omega)
        ((try (conv => cbv)); repeat (refine brk_ok hA ?_; (try (conv => cbv))))
        rw [en8]
        ((try (conv => cbv)); repeat (refine brk_ok hA ?_; (try (conv => cbv))))
        obtain ⟨w, hw⟩ : ∃ q, q = w0 := ⟨_, rfl⟩
        rw [← hw]
        ((try (conv => cbv)); repeat (refine brk_ok hA ?_; (try (conv => cbv))))
        have hw0 : 0 ≤ w := by omega
        have hw1 : w < 256 := by omega
        rw [conv8 hA hw0 hw1]
        refine strAt_tab hA (by kernel_rfl) hw0 hw1 (fun t c ht q1 q2 q3 => ?_)
        ((try (conv => cbv)); repeat (refine brk_ok hA ?_; (try (conv => cbv))))
        have ec : conv .i64 c = c := conv64 hA (by omega) (by omega)
        have ea : arith .add .i64 56 c = 56 + c := add64 hA (by omega) (by omega)
        rw [ec, ea]
        refine hQ _ (isLen_of (k := 56) (K := 72057594037927936) (t := t) x0 (w := w) (by omega) (by rfl) (by omega) q1 q2 ht)
      · obtain ⟨w0, hw0⟩ : ∃ q, q = y := ⟨_, rfl⟩
        rw [← hw0]
        ((try (conv => cbv)); repeat (refine brk_ok hA ?_; (try (conv => cbv))))
        obtain ⟨w, hw⟩ : ∃ q, q = w0 := ⟨_, rfl⟩
        rw [← hw]
        ((try (conv => cbv)); repeat (refine brk_ok hA ?_; (try (conv => cbv))))
        have hw0 : 0 ≤ w := by omega
        have hw1 : w < 256 := by omega
        rw [conv8 hA hw0 hw1]
        refine strAt_tab hA (by kernel_rfl) hw0 hw1 (fun t c ht q1 q2 q3 => ?_)
        ((try (conv => cbv)); repeat (refine brk_ok hA ?_; (try (conv => cbv))))
        have ec : conv .i64 c = c := conv64 hA (by omega) (by omega)
        have ea : arith .add .i64 48 c = 48 + c := add64 hA (by omega) (by omega)
        rw [ec, ea]
        refine hQ _ (isLen_of (k := 48) (K := 281474976710656) (t := t) x0 (w := w) (by omega) (by rfl) (by omega) q1 q2 ht)
    · obtain ⟨y, hy⟩ : ∃ q, q = z := ⟨_, rfl⟩
      rw [← hy]
      ((try (conv => cbv)); repeat (refine brk_ok hA ?_; (try (conv => cbv))))
      refine br (256 ≤ y) (by rw [e_geq hA]) (fun c8 => ?_) (fun c8 => ?_) <;> (try (conv => cbv)) <;> repeat (refine brk_ok hA ?_; (try (conv => cbv)))
      · refine ⟨geZ_ok hA (by omega), ?_⟩
        ((try (conv => cbv)); repeat (refine brk_ok hA ?_; (try (conv => cbv))))
        have hs8 : arith .shr .u64 y 8 = y / 256 := shrU hA (by omega) 8 (by omega) (by rfl)
        rw [hs8]
        obtain ⟨w0, hw0⟩ : ∃ q, q = y / 256 := ⟨_, rfl⟩
        rw [← hw0]
        have en8 : arith .add .i64 32 8 = 40 := add64 hA (by omega) (by omega)
        ((try (conv => cbv)); repeat (refine brk_ok hA ?_; (try (conv => cbv))))
        rw [en8]
        ((try (conv => cbv)); repeat (refine brk_ok hA ?_; (try (conv => cbv))))
        obtain ⟨w, hw⟩ : ∃ q, q = w0 := ⟨_, rfl⟩
        rw [← hw]
        ((try (conv => cbv)); repeat (refine brk_ok hA ?_; (try (conv => cbv))))
        have hw0 : 0 ≤ w := by omega
        have hw1 : w < 256 := by omega
        rw [conv8 hA hw0 hw1]
        refine strAt_tab hA (by kernel_rfl) hw0 hw1 (fun t c ht q1 q2 q3 => ?_)
        ((try (conv => cbv)); repeat (refine brk_ok hA ?_; (try (conv => cbv))))
        have ec : conv .i64 c = c := conv64 hA (by omega) (by omega)
        have ea : arith .add .i64 40 c = 40 + c := add64 hA (by omega) (by omega)
        rw [ec, ea]
        refine hQ _ (isLen_of (k := 40) (K := 1099511627776) (t := t) x0 (w := w) (by omega) (by rfl) (by omega) q1 q2 ht)
      · obtain ⟨w0, hw0⟩ : ∃ q, q = y := ⟨_, rfl⟩
        rw [← hw0]
        ((try (conv => cbv)); repeat (refine brk_ok hA ?_; (try (conv => cbv))))
        obtain ⟨w, hw⟩ : ∃ q, q = w0 := ⟨_, rfl⟩
        rw [← hw]
        ((try (conv => cbv)); repeat (refine brk_ok hA ?_; (try (conv => cbv))))
        have hw0 : 0 ≤ w := by omega
        have hw1 : w < 256 := by omega
        rw [conv8 hA hw0 hw1]
        refine strAt_tab hA (by kernel_rfl) hw0 hw1 (fun t c ht q1 q2 q3 => ?_)
        ((try (conv => cbv)); repeat (refine brk_ok hA ?_; (try (conv => cbv))))
        have ec : conv .i64 c = c := conv64 hA (by omega) (by omega)
        have ea : arith .add .i64 32 c = 32 + c := add64 hA (by omega) (by omega)
        rw [ec, ea]
        refine hQ _ (isLen_of (k := 32) (K := 4294967296) (t := t) x0 (w := w) (by omega) (by rfl) (by omega) q1 q2 ht)
  · obtain ⟨z, hz⟩ : ∃ q, q = x := ⟨_, rfl⟩
    rw [← hz]
    ((try (conv => cbv)); repeat (refine brk_ok hA ?_; (try (conv => cbv))))
    refine br (65536 ≤ z) (by rw [e_geq hA]) (fun c16 => ?_) (fun c16 => ?_) <;> (try (conv => cbv)) <;> repeat (refine brk_ok hA ?_; (try (conv => cbv)))
    · refine ⟨geZ_ok hA (by omega), ?_⟩
      ((try (conv => cbv)); repeat (refine brk_ok hA ?_; (try (conv => cbv))))
      have hs16 : arith .shr .u64 z 16 = z / 65536 := shrU hA (by omega) 16 (by omega) (by rfl)
      rw [hs16]
      obtain ⟨y, hy⟩ : ∃ q, q = z / 65536 := ⟨_, rfl⟩
      rw [← hy]
      have en16 : arith .add .i64 0 16 = 16 := add64 hA (by omega) (by omega)
      ((try (conv => cbv)); repeat (refine brk_ok hA ?_; (try (conv => cbv))))
      rw [en16]
      ((try (conv => cbv)); repeat (refine brk_ok hA ?_; (try (conv => cbv))))
      refine br (256 ≤ y) (by rw [e_geq hA]) (fun c8 => ?_) (fun c8 => ?_) <;> (try (conv => cbv)) <;> repeat (refine brk_ok hA ?_; (try (conv => cbv)))
      · refine ⟨geZ_ok hA (by omega), ?_⟩
        ((try (conv => cbv)); repeat (refine brk_ok hA ?_; (try (conv => cbv))))
        have hs8 : arith .shr .u64 y 8 = y / 256 := shrU hA (by omega) 8 (by omega) (by rfl)
        rw [hs8]
        obtain ⟨w0, hw0⟩ : ∃ q, q = y / 256 := ⟨_, rfl⟩
        rw [← hw0]
        have en8 : arith .add .i64 16 8 = 24 := add64 hA (by omega) (by omega)
        ((try (conv => cbv)); repeat (refine brk_ok hA ?_; (try (conv => cbv))))
        rw [en8]
        ((try (conv => cbv)); repeat (refine brk_ok hA ?_; (try (conv => cbv))))
        obtain ⟨w, hw⟩ : ∃ q, q = w0 := ⟨_, rfl⟩
        rw [← hw]
        ((try (conv => cbv)); repeat (refine brk_ok hA ?_; (try (conv => cbv))))
        have hw0 : 0 ≤ w := by omega
        have hw1 : w < 256 := by omega
        rw [conv8 hA hw0 hw1]
        refine strAt_tab hA (by kernel_rfl) hw0 hw1 (fun t c ht q1 q2 q3 => ?_)
        ((try (conv => cbv)); repeat (refine brk_ok hA ?_; (try (conv => cbv))))
        have ec : conv .i64 c = c := conv64 hA (by omega) (by omega)
        have ea : arith .add .i64 24 c = 24 + c := add64 hA (by omega) (by omega)
        rw [ec, ea]
        refine hQ _ (isLen_of (k := 24) (K := 16777216) (t := t) x0 (w := w) (by omega) (by rfl) (by omega) q1 q2 ht)
      · obtain ⟨w0, hw0⟩ : ∃ q, q = y := ⟨_, rfl⟩
        rw [← hw0]
        ((try (conv => cbv)); repeat (refine brk_ok hA ?_; (try (conv => cbv))))
        obtain ⟨w, hw⟩ : ∃ q, q = w0 := ⟨_, rfl⟩
        rw [← hw]
        ((try (conv => cbv)); repeat (refine brk_ok hA ?_; (try (conv => cbv))))
        have hw0 : 0 ≤ w := by omega
        have hw1 : w < 256 := by omega
        rw [conv8 hA hw0 hw1]
        refine strAt_tab hA (by kernel_rfl) hw0 hw1 (fun t c ht q1 q2 q3 => ?_)
        ((try (conv => cbv)); repeat (refine brk_ok hA ?_; (try (conv => cbv))))
        have ec : conv .i64 c = c := conv64 hA (by omega) (by omega)
        have ea : arith .add .i64 16 c = 16 + c := add64 hA (by omega) (by omega)
        rw [ec, ea]
        refine hQ _ (isLen_of (k := 16) (K := 65536) (t := t) x0 (w := w) (by omega) (by rfl) (by omega) q1 q2 ht)
    · obtain ⟨y, hy⟩ : ∃ q, q = z := ⟨_, rfl⟩
      rw [← hy]
      ((try (conv => cbv)); repeat (refine brk_ok hA ?_; (try (conv => cbv))))
      refine br (256 ≤ y) (by rw [e_geq hA]) (fun c8 => ?_) (fun c8 => ?_) <;> (try (conv => cbv)) <;> repeat (refine brk_ok hA ?_; (try (conv => cbv)))
      · refine ⟨geZ_ok hA (by omega), ?_⟩
        ((try (conv => cbv)); repeat (refine brk_ok hA ?_; (try (conv => cbv))))
        have hs8 : arith .shr .u64 y 8 = y / 256 := shrU hA (by omega) 8 (by omega) (by rfl)
        rw [hs8]
        obtain ⟨w0, hw0⟩ : ∃ q, q = y / 256 := ⟨_, rfl⟩
        rw [← hw0]
        have en8 : arith .add .i64 0 8 = 8 := add64 hA (by omega) (by omega)
        ((try (conv => cbv)); repeat (refine brk_ok hA ?_; (try (conv => cbv))))
        rw [en8]
        ((try (conv => cbv)); repeat (refine brk_ok hA ?_; (try (conv => cbv))))
        obtain ⟨w, hw⟩ : ∃ q, q = w0 := ⟨_, rfl⟩
        rw [← hw]
        ((try (conv => cbv)); repeat (refine brk_ok hA ?_; (try (conv => cbv))))
        have hw0 : 0 ≤ w := by omega
        have hw1 : w < 256 := by omega
        rw [conv8 hA hw0 hw1]
        refine strAt_tab hA (by kernel_rfl) hw0 hw1 (fun t c ht q1 q2 q3 => ?_)
        ((try (conv => cbv)); repeat (refine brk_ok hA ?_; (try (conv => cbv))))
        have ec : conv .i64 c = c := conv64 hA (by omega) (by omega)
        have ea : arith .add .i64 8 c = 8 + c := add64 hA (by omega) (by omega)
        rw [ec, ea]
        refine hQ _ (isLen_of (k := 8) (K := 256) (t := t) x0 (w := w) (by omega) (by rfl) (by omega) q1 q2 ht)
      · obtain ⟨w0, hw0⟩ : ∃ q, q = y := ⟨_, rfl⟩
        rw [← hw0]
        ((try (conv => cbv)); repeat (refine brk_ok hA ?_; (try (conv => cbv))))
        obtain ⟨w, hw⟩ : ∃ q, q = w0 := ⟨_, rfl⟩
        rw [← hw]
        ((try (conv => cbv)); repeat (refine brk_ok hA ?_; (try (conv => cbv))))
        have hw0 : 0 ≤ w := by omega
        have hw1 : w < 256 := by omega
        rw [conv8 hA hw0 hw1]
        refine strAt_tab hA (by kernel_rfl) hw0 hw1 (fun t c ht q1 q2 q3 => ?_)
        ((try (conv => cbv)); repeat (refine brk_ok hA ?_; (try (conv => cbv))))
        have ec : conv .i64 c = c := conv64 hA (by omega) (by omega)
        have ea : arith .add .i64 0 c = 0 + c := add64 hA (by omega) (by omega)
        rw [ec, ea]
        refine hQ _ (isLen_of (k := 0) (K := 1) (t := t) x0 (w := w) (by omega) (by rfl) (by omega) q1 q2 ht)

end Go.Proofs.Ytnokkniofajnhaa
