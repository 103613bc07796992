/-
  math/bits: quotients of 128 bits.
-/
import Derived.Test.YtnokkniofajnhaaFracF
namespace Go.Proofs.Ytnokkniofajnhaa
open Go.Sim
set_option linter.unusedVariables false
set_option maxRecDepth 100000

/-- How far a number is shifted. -/
theorem lz_of {x n : Int} (hx : 1 ≤ x) (hx1 : x < 18446744073709551616) (h : isLen x n) : ∃ s : Nat, 64 - n = s ∧ s ≤ 63 ∧ 9223372036854775808 ≤ x * 2 ^ s ∧ x * 2 ^ s < 18446744073709551616 := by
  obtain ⟨h0, h1, h2⟩ := h
  have hn1 : 1 ≤ n.toNat := by
    by_cases c : n.toNat = 0
    · rw [c] at h1; simp at h1; omega
    · omega
  have hn2 : n.toNat ≤ 64 := by
    by_cases c : n.toNat ≤ 64
    · exact c
    · exfalso
      have h3 : (2 : Nat) ^ 65 ≤ 2 ^ n.toNat := Nat.pow_le_pow_right (by omega) (by omega)
      have h4 : (2 : Int) ^ 65 ≤ 2 ^ n.toNat := by exact_mod_cast h3
      have h5 : (2 : Int) ^ 65 = 36893488147419103232 := by rfl
      omega
  refine ⟨64 - n.toNat, by omega, by omega, ?_⟩
  have e : (2 : Int) ^ n.toNat * 2 ^ (64 - n.toNat) = 18446744073709551616 := by
    rw [← Int.pow_add, show n.toNat + (64 - n.toNat) = 64 by omega]; rfl
  have hp : (0 : Int) < 2 ^ (64 - n.toNat) := Int.pow_pos (by omega)
  generalize (2 : Int) ^ n.toNat = A at *
  generalize (2 : Int) ^ (64 - n.toNat) = B at *
  constructor
  · have := Int.mul_le_mul_of_nonneg_right (show A ≤ 2 * x by omega) (Int.le_of_lt hp)
    have e2 : 2 * x * B = 2 * (x * B) := by grind
    omega
  · have := Int.mul_lt_mul_of_pos_right h1 hp
    omega

theorem rem_wrap {U d q Y N V : Int} (hN : N = U * 4294967296 + d) (m : Y * q + V = N) (V0 : 0 ≤ V) (V1 : V < 18446744073709551616) : ((U * 4294967296 % 18446744073709551616 + d) % 18446744073709551616 - q * Y % 18446744073709551616) % 18446744073709551616 = V := by
  rw [Int.mul_comm q Y]
  generalize Y * q = z at *
  omega

variable {F : Prims}
  {call : FuncId → List Value → AHeap → (Value → AHeap → Prop) → Prop}
  {head : FuncId → Nat → Nat → SS → (Exit → SS → Prop) → Prop}
  {arith : BinOp → IntKind → Int → Int → Int}
  {cmp : BinOp → Int → Int → Bool}
  {scmp : BinOp → ByteArray → ByteArray → Bool}
  {bnot : Bool → Bool}
  {bsame : Bool → Bool → Bool}
  {conv : IntKind → Int → Int}
  {neg : IntKind → Int → Int}
  {imax : Int → Int → Int}
  {imin : Int → Int → Int}
  {ofNat : Nat → Int}
  {slen : ByteArray → Int}
  {place : Nat → Int → Nat → Nat}
  {inR : Int → Nat → Prop}
  {nz : Int → Prop}
  {geZ : Int → Prop}
  {rd : AHeap → Nat → Nat → Nat → List Value → Prop}
  {wr : AHeap → Nat → Nat → List Value → AHeap → Prop}
  {push : AHeap → Nat → List Value → AHeap}
  {next : AHeap → Nat}
  {mkOK : Int → Int → Prop}
  {nat : Int → Nat}
  {zeros : List Value → Int → List Value}
  {sadd : ByteArray → ByteArray → (ByteArray → Prop) → Prop}
  {eqAgg : TypeId → Array Value → Array Value → (Bool → Prop) → Prop}
  {cut : Nat → Int → Prop}
  {slc : TypeId → Value → Option Value → Option Value → Option Value → (Option Addr → Nat → Nat → Prop) → Prop}
  {sslc : TypeId → ByteArray → Option Value → Option Value → (ByteArray → Prop) → Prop}
  {strAt : ByteArray → Int → (Int → Prop) → Prop}
  {part : TypeId → Array Value → Nat → Value → Prop}
  {app : List TypeId → List Value → AHeap → (Option Addr → Nat → Nat → AHeap → Prop) → Prop}
  {cpy : List TypeId → List Value → AHeap → (Int → AHeap → Prop) → Prop}
  {putAt : AHeap → Nat → Nat → List Value → AHeap}
  {fresh : AHeap → AHeap}
  {lowered : AHeap → AHeap → AHeap}
  {bump : AHeap → Nat → AHeap}
  {wrote : AHeap → AHeap → Bool}
  {addN : Nat → Nat → Nat}
  {lt : Nat → Nat → Prop}
  {ne : Nat → Nat → Prop}
  {fpAll : Bool → Bool → Bool → Nat → Nat → Prop}
  {brk : (Unit → Prop) → Prop}
  {yn : Nat → Nat}
  {rng : FuncId → Nat → SS → (Exit → SS → Prop) → Prop}
  {mget : TypeId → Value → Value → AHeap → Value → Bool → Prop}
  {mput : TypeId → Value → Value → Value → AHeap → AHeap → Prop}
  {mnew : AHeap → AHeap}
  {bytes : TypeId → TypeId → Option Addr → Nat → AHeap → ByteArray → Prop}
  {clr : List TypeId → List Value → AHeap → AHeap → Prop}
  (hA : AP F ⟨call, head, arith, cmp, scmp, bnot, bsame, conv, neg, imax, imin, ofNat, slen, place, inR, nz, geZ, rd, wr, push, next, mkOK, nat, zeros, sadd, eqAgg, cut, slc, sslc, strAt, part, app, cpy, putAt, fresh, lowered, bump, wrote, addN, lt, ne, fpAll, brk, yn, rng, mget, mput, mnew, bytes, clr⟩)
include hA

theorem lz64_ok {h : AHeap} (hlow : h.low ≤ h.next) {x : Int} (hx : u64 x) (hx1 : 1 ≤ x) {Q : Value → AHeap → Prop} (hQ : ∀ s : Nat, s ≤ 63 → 9223372036854775808 ≤ x * 2 ^ s → x * 2 ^ s < 18446744073709551616 → Q (.int .i64 s) h) : call 99 [.int .u64 x] h Q := by
  refine hA.bodyR Try.func99 r99_ok (hA.alike _ _ _ rfl) hlow ?_; (try (conv => cbv)); repeat (refine brk_ok hA ?_; (try (conv => cbv)))
  refine len64_ok hA hlow hx (fun n hn => ⟨_, rfl, ?_⟩)
  ((try (conv => cbv)); repeat (refine brk_ok hA ?_; (try (conv => cbv))))
  obtain ⟨s, s1, s2, s3, s4⟩ := lz_of hx1 hx.2 hn
  rw [sub64 hA (by omega) (by omega), s1]
  exact hQ s s2 s3 s4

theorem dig1_loop {h : AHeap} {y y1 y0 u d d0 s N : Int} (hy : y = y1 * 4294967296 + y0) (b1 : 2147483648 ≤ y1) (b2 : y1 < 4294967296) (b3 : 0 ≤ y0) (b4 : y0 < 4294967296) (hyp : 0 < y) (hN : N = u * 4294967296 + d) (d1 : 0 ≤ d) (d2 : d < 4294967296) (N0 : 0 ≤ N) (Ns : N / y < 4294967296) {Q : Exit → SS → Prop}
    (hQ : Q (.exit 0) ⟨[(2, .int .u64 y), (8, .int .u64 s), (9, .int .u64 y1), (10, .int .u64 y0), (11, .int .u64 u), (13, .int .u64 d), (14, .int .u64 d0), (15, .int .u64 (N / y))], 0, [], h⟩) :
    ∀ (k : Nat) (q r : Int), q.toNat ≤ k → N / y ≤ q → q ≤ 4294967297 → 0 ≤ r → r < 4294967296 → r = u - q * y1 → head 84 17 0 ⟨[(2, .int .u64 y), (8, .int .u64 s), (9, .int .u64 y1), (10, .int .u64 y0), (11, .int .u64 u), (13, .int .u64 d), (14, .int .u64 d0), (15, .int .u64 q), (16, .int .u64 r)], 0, [], h⟩ Q := by
  have Q0 : 0 ≤ N / y := Int.ediv_nonneg N0 (by omega)
  intro k
  induction k with
  | zero =>
    intro q r hk l1 l2 l3 l4 hr
    have hq0 : q = 0 := by omega
    subst hq0
    refine hA.roundR Try.func84 r84_ok ?_; (try (conv => cbv)); repeat (refine brk_ok hA ?_; (try (conv => cbv)))
    refine br (4294967296 ≤ (0 : Int)) (by rw [e_geq hA]) (fun c => absurd c (by omega)) (fun c => ?_) <;> (try (conv => cbv)) <;> repeat (refine brk_ok hA ?_; (try (conv => cbv)))
    have e1 : arith .mul .u64 0 y0 = 0 := by rw [mulU hA (by omega) (by omega)]; omega
    have e2 : arith .mul .u64 4294967296 r = 4294967296 * r := mulU hA (by omega) (by omega)
    have e3 : arith .add .u64 (4294967296 * r) d = 4294967296 * r + d := addU hA (by omega) (by omega)
    rw [e1, e2, e3]
    refine br (4294967296 * r + d < 0) (by rw [e_gtr hA]) (fun c2 => absurd c2 (by omega)) (fun c2 => ?_) <;> (try (conv => cbv)) <;> repeat (refine brk_ok hA ?_; (try (conv => cbv)))
    have : N / y = 0 := by omega
    rw [this] at hQ
    exact hQ
  | succ k ih =>
    intro q r hk l1 l2 l3 l4 hr
    refine hA.roundR Try.func84 r84_ok ?_; (try (conv => cbv)); repeat (refine brk_ok hA ?_; (try (conv => cbv)))
    refine br (4294967296 ≤ q) (by rw [e_geq hA]) (fun c => ?_) (fun c => ?_) <;> (try (conv => cbv)) <;> repeat (refine brk_ok hA ?_; (try (conv => cbv)))
    · have hlt : N / y < q := by omega
      have e15 : arith .sub .u64 q 1 = q - 1 := subU hA (by omega) (by omega)
      have e16 : arith .add .u64 r y1 = r + y1 := addU hA (by omega) (by omega)
      rw [e15, e16]
      obtain ⟨q', hq'⟩ : ∃ z, z = q - 1 := ⟨_, rfl⟩
      obtain ⟨r', hr'⟩ : ∃ z, z = r + y1 := ⟨_, rfl⟩
      rw [← hq', ← hr']
      ((try (conv => cbv)); repeat (refine brk_ok hA ?_; (try (conv => cbv))))
      have hrr : r' = u - q' * y1 := by rw [hr', hr, hq', Int.sub_mul]; omega
      refine br (4294967296 ≤ r') (by rw [e_geq hA]) (fun c5 => ?_) (fun c5 => ?_) <;> (try (conv => cbv)) <;> repeat (refine brk_ok hA ?_; (try (conv => cbv)))
      · have h1 : ¬ (q' * y0 > 4294967296 * r' + d) := by
          have := mul_bd 4294967296 4294967295 (a := q') (b := y0) (by omega) (by omega) (by omega) (by omega)
          omega
        rw [dig_cond hy hrr hN, dig_gt hyp] at h1
        have : q' = N / y := by omega
        rw [this]
        exact hQ
      · exact ih q' r' (by omega) (by omega) (by omega) (by omega) (by omega) hrr
    · have m1 := mul_bd 4294967296 4294967295 (a := q) (b := y0) (by omega) (by omega) (by omega) (by omega)
      have e1 : arith .mul .u64 q y0 = q * y0 := mulU hA m1.1 (by omega)
      have e2 : arith .mul .u64 4294967296 r = 4294967296 * r := mulU hA (by omega) (by omega)
      have e3 : arith .add .u64 (4294967296 * r) d = 4294967296 * r + d := addU hA (by omega) (by omega)
      rw [e1, e2, e3]
      refine br (4294967296 * r + d < q * y0) (by rw [e_gtr hA]) (fun c2 => ?_) (fun c2 => ?_) <;> (try (conv => cbv)) <;> repeat (refine brk_ok hA ?_; (try (conv => cbv)))
      · have hlt : N / y < q := by
          rw [← dig_gt hyp, ← dig_cond hy hr hN]; exact c2
        have e15 : arith .sub .u64 q 1 = q - 1 := subU hA (by omega) (by omega)
        have e16 : arith .add .u64 r y1 = r + y1 := addU hA (by omega) (by omega)
        rw [e15, e16]
        obtain ⟨q', hq'⟩ : ∃ z, z = q - 1 := ⟨_, rfl⟩
        obtain ⟨r', hr'⟩ : ∃ z, z = r + y1 := ⟨_, rfl⟩
        rw [← hq', ← hr']
        ((try (conv => cbv)); repeat (refine brk_ok hA ?_; (try (conv => cbv))))
        have hrr : r' = u - q' * y1 := by rw [hr', hr, hq', Int.sub_mul]; omega
        refine br (4294967296 ≤ r') (by rw [e_geq hA]) (fun c5 => ?_) (fun c5 => ?_) <;> (try (conv => cbv)) <;> repeat (refine brk_ok hA ?_; (try (conv => cbv)))
        · have h1 : ¬ (q' * y0 > 4294967296 * r' + d) := by
            have := mul_bd 4294967296 4294967295 (a := q') (b := y0) (by omega) (by omega) (by omega) (by omega)
            omega
          rw [dig_cond hy hrr hN, dig_gt hyp] at h1
          have : q' = N / y := by omega
          rw [this]
          exact hQ
        · exact ih q' r' (by omega) (by omega) (by omega) (by omega) (by omega) hrr
      · have hge : ¬ N / y < q := by
          rw [← dig_gt hyp, ← dig_cond hy hr hN]; exact c2
        have : q = N / y := by omega
        rw [this]
        exact hQ

theorem dig2_loop {h : AHeap} {y y1 y0 u d q1 s N : Int} (hy : y = y1 * 4294967296 + y0) (b1 : 2147483648 ≤ y1) (b2 : y1 < 4294967296) (b3 : 0 ≤ y0) (b4 : y0 < 4294967296) (hyp : 0 < y) (hN : N = u * 4294967296 + d) (d1 : 0 ≤ d) (d2 : d < 4294967296) (N0 : 0 ≤ N) (Ns : N / y < 4294967296) {Q : Exit → SS → Prop}
    (hQ : Q (.exit 2) ⟨[(2, .int .u64 y), (8, .int .u64 s), (14, .int .u64 d), (15, .int .u64 q1), (17, .int .u64 u), (18, .int .u64 (N / y))], 0, [], h⟩) :
    ∀ (k : Nat) (q r : Int), q.toNat ≤ k → N / y ≤ q → q ≤ 4294967297 → 0 ≤ r → r < 4294967296 → r = u - q * y1 → head 84 24 0 ⟨[(2, .int .u64 y), (8, .int .u64 s), (9, .int .u64 y1), (10, .int .u64 y0), (14, .int .u64 d), (15, .int .u64 q1), (16, .int .u64 r), (17, .int .u64 u), (18, .int .u64 q)], 0, [], h⟩ Q := by
  have Q0 : 0 ≤ N / y := Int.ediv_nonneg N0 (by omega)
  intro k
  induction k with
  | zero =>
    intro q r hk l1 l2 l3 l4 hr
    have hq0 : q = 0 := by omega
    subst hq0
    refine hA.roundR Try.func84 r84_ok ?_; (try (conv => cbv)); repeat (refine brk_ok hA ?_; (try (conv => cbv)))
    refine br (4294967296 ≤ (0 : Int)) (by rw [e_geq hA]) (fun c => absurd c (by omega)) (fun c => ?_) <;> (try (conv => cbv)) <;> repeat (refine brk_ok hA ?_; (try (conv => cbv)))
    have e1 : arith .mul .u64 0 y0 = 0 := by rw [mulU hA (by omega) (by omega)]; omega
    have e2 : arith .mul .u64 4294967296 r = 4294967296 * r := mulU hA (by omega) (by omega)
    have e3 : arith .add .u64 (4294967296 * r) d = 4294967296 * r + d := addU hA (by omega) (by omega)
    rw [e1, e2, e3]
    refine br (4294967296 * r + d < 0) (by rw [e_gtr hA]) (fun c2 => absurd c2 (by omega)) (fun c2 => ?_) <;> (try (conv => cbv)) <;> repeat (refine brk_ok hA ?_; (try (conv => cbv)))
    have : N / y = 0 := by omega
    rw [this] at hQ
    exact hQ
  | succ k ih =>
    intro q r hk l1 l2 l3 l4 hr
    refine hA.roundR Try.func84 r84_ok ?_; (try (conv => cbv)); repeat (refine brk_ok hA ?_; (try (conv => cbv)))
    refine br (4294967296 ≤ q) (by rw [e_geq hA]) (fun c => ?_) (fun c => ?_) <;> (try (conv => cbv)) <;> repeat (refine brk_ok hA ?_; (try (conv => cbv)))
    · have hlt : N / y < q := by omega
      have e15 : arith .sub .u64 q 1 = q - 1 := subU hA (by omega) (by omega)
      have e16 : arith .add .u64 r y1 = r + y1 := addU hA (by omega) (by omega)
      rw [e15, e16]
      obtain ⟨q', hq'⟩ : ∃ z, z = q - 1 := ⟨_, rfl⟩
      obtain ⟨r', hr'⟩ : ∃ z, z = r + y1 := ⟨_, rfl⟩
      rw [← hq', ← hr']
      ((try (conv => cbv)); repeat (refine brk_ok hA ?_; (try (conv => cbv))))
      have hrr : r' = u - q' * y1 := by rw [hr', hr, hq', Int.sub_mul]; omega
      refine br (4294967296 ≤ r') (by rw [e_geq hA]) (fun c5 => ?_) (fun c5 => ?_) <;> (try (conv => cbv)) <;> repeat (refine brk_ok hA ?_; (try (conv => cbv)))
      · have h1 : ¬ (q' * y0 > 4294967296 * r' + d) := by
          have := mul_bd 4294967296 4294967295 (a := q') (b := y0) (by omega) (by omega) (by omega) (by omega)
          omega
        rw [dig_cond hy hrr hN, dig_gt hyp] at h1
        have : q' = N / y := by omega
        rw [this]
        exact hQ
      · exact ih q' r' (by omega) (by omega) (by omega) (by omega) (by omega) hrr
    · have m1 := mul_bd 4294967296 4294967295 (a := q) (b := y0) (by omega) (by omega) (by omega) (by omega)
      have e1 : arith .mul .u64 q y0 = q * y0 := mulU hA m1.1 (by omega)
      have e2 : arith .mul .u64 4294967296 r = 4294967296 * r := mulU hA (by omega) (by omega)
      have e3 : arith .add .u64 (4294967296 * r) d = 4294967296 * r + d := addU hA (by omega) (by omega)
      rw [e1, e2, e3]
      refine br (4294967296 * r + d < q * y0) (by rw [e_gtr hA]) (fun c2 => ?_) (fun c2 => ?_) <;> (try (conv => cbv)) <;> repeat (refine brk_ok hA ?_; (try (conv => cbv)))
      · have hlt : N / y < q := by
          rw [← dig_gt hyp, ← dig_cond hy hr hN]; exact c2
        have e15 : arith .sub .u64 q 1 = q - 1 := subU hA (by omega) (by omega)
        have e16 : arith .add .u64 r y1 = r + y1 := addU hA (by omega) (by omega)
        rw [e15, e16]
        obtain ⟨q', hq'⟩ : ∃ z, z = q - 1 := ⟨_, rfl⟩
        obtain ⟨r', hr'⟩ : ∃ z, z = r + y1 := ⟨_, rfl⟩
        rw [← hq', ← hr']
        ((try (conv => cbv)); repeat (refine brk_ok hA ?_; (try (conv => cbv))))
        have hrr : r' = u - q' * y1 := by rw [hr', hr, hq', Int.sub_mul]; omega
        refine br (4294967296 ≤ r') (by rw [e_geq hA]) (fun c5 => ?_) (fun c5 => ?_) <;> (try (conv => cbv)) <;> repeat (refine brk_ok hA ?_; (try (conv => cbv)))
        · have h1 : ¬ (q' * y0 > 4294967296 * r' + d) := by
            have := mul_bd 4294967296 4294967295 (a := q') (b := y0) (by omega) (by omega) (by omega) (by omega)
            omega
          rw [dig_cond hy hrr hN, dig_gt hyp] at h1
          have : q' = N / y := by omega
          rw [this]
          exact hQ
        · exact ih q' r' (by omega) (by omega) (by omega) (by omega) (by omega) hrr
      · have hge : ¬ N / y < q := by
          rw [← dig_gt hyp, ← dig_cond hy hr hN]; exact c2
        have : q = N / y := by omega
        rw [this]
        exact hQ

end Go.Proofs.Ytnokkniofajnhaa
