/-
  fringeref01: long division.
-/
import Derived.Test.YtnokkniofajnhaaFracZ
namespace Go.Proofs.Ytnokkniofajnhaa
open Go.Sim
set_option linter.unusedVariables false
set_option maxRecDepth 100000

variable {F : Prims}
  {call : FuncId → List Value → AHeap → (Value → AHeap → Prop) → Prop}
  {head : FuncId → Nat → Nat → SS → (Exit → SS → Prop) → Prop}
  {arith : BinOp → IntKind → Int → Int → Int}
  {cmp : BinOp → Int → Int → Bool}
  {scmp : BinOp → ByteArray → ByteArray → Bool}
  {bnot : Bool → Bool}
  {bsame : Bool → Bool → Bool}
  {conv : IntKind → Int → Int}
  {neg : IntKind → Int → Int}
  {imax : Int → Int → Int}
  {imin : Int → Int → Int}
  {ofNat : Nat → Int}
  {slen : ByteArray → Int}
  {place : Nat → Int → Nat → Nat}
  {inR : Int → Nat → Prop}
  {nz : Int → Prop}
  {geZ : Int → Prop}
  {rd : AHeap → Nat → Nat → Nat → List Value → Prop}
  {wr : AHeap → Nat → Nat → List Value → AHeap → Prop}
  {push : AHeap → Nat → List Value → AHeap}
  {next : AHeap → Nat}
  {mkOK : Int → Int → Prop}
  {nat : Int → Nat}
  {zeros : List Value → Int → List Value}
  {sadd : ByteArray → ByteArray → (ByteArray → Prop) → Prop}
  {eqAgg : TypeId → Array Value → Array Value → (Bool → Prop) → Prop}
  {cut : Nat → Int → Prop}
  {slc : TypeId → Value → Option Value → Option Value → Option Value → (Option Addr → Nat → Nat → Prop) → Prop}
  {sslc : TypeId → ByteArray → Option Value → Option Value → (ByteArray → Prop) → Prop}
  {strAt : ByteArray → Int → (Int → Prop) → Prop}
  {part : TypeId → Array Value → Nat → Value → Prop}
  {app : List TypeId → List Value → AHeap → (Option Addr → Nat → Nat → AHeap → Prop) → Prop}
  {cpy : List TypeId → List Value → AHeap → (Int → AHeap → Prop) → Prop}
  {putAt : AHeap → Nat → Nat → List Value → AHeap}
  {fresh : AHeap → AHeap}
  {lowered : AHeap → AHeap → AHeap}
  {bump : AHeap → Nat → AHeap}
  {wrote : AHeap → AHeap → Bool}
  {addN : Nat → Nat → Nat}
  {lt : Nat → Nat → Prop}
  {ne : Nat → Nat → Prop}
  {fpAll : Bool → Bool → Bool → Nat → Nat → Prop}
  {brk : (Unit → Prop) → Prop}
  {yn : Nat → Nat}
  {rng : FuncId → Nat → SS → (Exit → SS → Prop) → Prop}
  {mget : TypeId → Value → Value → AHeap → Value → Bool → Prop}
  {mput : TypeId → Value → Value → Value → AHeap → AHeap → Prop}
  {mnew : AHeap → AHeap}
  {bytes : TypeId → TypeId → Option Addr → Nat → AHeap → ByteArray → Prop}
  {clr : List TypeId → List Value → AHeap → AHeap → Prop}
  (hA : AP F ⟨call, head, arith, cmp, scmp, bnot, bsame, conv, neg, imax, imin, ofNat, slen, place, inR, nz, geZ, rd, wr, push, next, mkOK, nat, zeros, sadd, eqAgg, cut, slc, sslc, strAt, part, app, cpy, putAt, fresh, lowered, bump, wrote, addN, lt, ne, fpAll, brk, yn, rng, mget, mput, mnew, bytes, clr⟩)
include hA

theorem over_step {h0 h : AHeap} {ba bb : Nat} {O A : List Int} (t : Duo h0 h ba bb O A) {i r n : Int} {b : Nat} (i0 : 0 ≤ i) (i1 : i < 4) (hb : b < 32) (n1 : n < 4611686018427387904) (r0 : 0 ≤ r) (r1 : r < n) {K : List Value} {Q : Exit → SS → Prop} {r' v : Int}
    (hr' : r' = r * 2 + at' A i / 2 ^ b % 2) (T0 : 0 ≤ at' A i) (T1 : at' A i < 4294967296) (hv : at' O i = v * 2 ^ (b + 1)) (v0 : 0 ≤ v) (hv1 : v * 2 ^ (b + 1) + 2 ^ b < 18446744073709551616)
    (h1 : r' < n → ∀ h', Duo h0 h' ba bb O A → head 88 6 1 ⟨[(1, .int .u64 n), (2, .pointer (some ⟨bb, 0, none⟩)), (4, .pointer (some ⟨0, 0, some 0⟩)), (6, .pointer (some ⟨ba, 0, none⟩)), (7, .int .u64 r'), (8, .int .i64 i), (9, .int .i64 ((b : Int) - 1))], 1, [(0, K)], h'⟩ Q)
    (h2 : n ≤ r' → ∀ h', Duo h0 h' ba bb (O.set i.toNat (v * 2 ^ (b + 1) + 2 ^ b)) A → head 88 6 1 ⟨[(1, .int .u64 n), (2, .pointer (some ⟨bb, 0, none⟩)), (4, .pointer (some ⟨0, 0, some 0⟩)), (6, .pointer (some ⟨ba, 0, none⟩)), (7, .int .u64 (r' - n)), (8, .int .i64 i), (9, .int .i64 ((b : Int) - 1))], 1, [(0, K)], h'⟩ Q) :
    head 88 6 1 ⟨[(1, .int .u64 n), (2, .pointer (some ⟨bb, 0, none⟩)), (4, .pointer (some ⟨0, 0, some 0⟩)), (6, .pointer (some ⟨ba, 0, none⟩)), (7, .int .u64 r), (8, .int .i64 i), (9, .int .i64 (b : Int))], 1, [(0, K)], h⟩ Q := by
  obtain ⟨bi, hbi⟩ : ∃ z : Int, z = (b : Int) := ⟨_, rfl⟩
  rw [← hbi] at h1 h2 ⊢
  obtain ⟨p, hp⟩ : ∃ z : Int, z = 2 ^ b := ⟨_, rfl⟩
  have hp0 : 0 < p := by rw [hp]; exact Int.pow_pos (by omega)
  have hp1 : (2 : Int) ^ (b + 1) = 2 * p := by rw [hp, Int.pow_succ, Int.mul_comm]
  have es : arith .shl .u64 r 1 = r * 2 ^ 1 := by rw [shlU hA r 1 (by omega) (by rfl)]; exact Int.emod_eq_of_lt (by omega) (by omega)
  have eh : arith .shr .u64 (at' A i) bi = at' A i / p := by rw [shrU hA T0 b (by omega) hbi, hp]
  have ep : arith .shl .u64 1 bi = p := by
    rw [shlU hA 1 b (by omega) hbi, Int.one_mul, ← hp]
    exact Int.emod_eq_of_lt (by omega) (by
      have := Int.mul_nonneg v0 (show (0 : Int) ≤ 2 ^ (b + 1) by omega)
      omega)
  have eo : arith .or .u64 (at' O i) p = v * 2 ^ (b + 1) + p := by
    rw [hv]
    exact orU hA (b + 1) v0 (by omega) (by omega) (by rw [hp]; exact hv1)
  rw [← hp] at h2 hr'
  have pj : place (addN 0 0) i 1 = i.toNat := by rw [e_place hA, e_addN hA]; omega
  have g1 := rd_dig hA t.ob t.len.2 i0 i1
  obtain ⟨x, hx⟩ : ∃ z, z = at' A i := ⟨_, rfl⟩
  rw [← hx] at g1 eh hr' T0 T1
  have hd0 : 0 ≤ x / p := Int.ediv_nonneg T0 (by omega)
  have hd1 : x / p ≤ x := Int.ediv_le_self _ T0
  have ea : arith .and .u64 (x / p) 1 = x / p % 2 := maskU hA hd0 (by omega) 1 (by omega) (by rfl)
  have er : arith .or .u64 (r * 2 ^ 1) (x / p % 2) = r' := by rw [orU hA 1 r0 (by omega) (by omega) (by omega), hr']; omega
  refine hA.roundR Try.func88 r88_ok ?_; (try (conv => cbv)); repeat (refine brk_ok hA ?_; (try (conv => cbv)))
  refine br (0 ≤ bi) (by rw [e_geq hA]) (fun _ => ?_) (fun q => absurd (show 0 ≤ bi by omega) q) <;> (try (conv => cbv)) <;> repeat (refine brk_ok hA ?_; (try (conv => cbv)))
  ((try (conv => cbv)); repeat ((first | refine brk_ok hA ?_ | refine ⟨in_ok hA (by omega) (by omega), ?_⟩ | refine ⟨nz_ok hA (by omega), ?_⟩ | refine ⟨geZ_ok hA (by omega), ?_⟩ | refine ⟨ne_ok hA (by omega), ?_⟩ | refine ⟨wrote_no hA (by assumption), ?_⟩ | refine ⟨wrote_no hA (.refl _), ?_⟩ | refine ⟨_, ‹rd _ _ _ _ _›, ?_⟩ | refine ⟨_, ‹wr _ _ _ _ _›, ?_⟩); (try (conv => cbv))))
  rw [eh, ea, es, er]
  have sb : arith .sub .i64 bi 1 = bi - 1 := sub64 hA (by omega) (by omega)
  refine br (n ≤ r') (by rw [e_geq hA]) (fun c => ?_) (fun c => ?_) <;> (try (conv => cbv)) <;> repeat (refine brk_ok hA ?_; (try (conv => cbv)))
  rotate_left
  · rw [sb]
    exact h1 (by omega) _ t
  obtain ⟨h9, hh9⟩ : ∃ z, z = bump h 10 := ⟨_, rfl⟩
  have e9 : Ext h h9 := by rw [hh9]; exact ext_bump hA _ _
  have t9 := t.more e9
  rw [← hh9]
  have g2 := rd_dig hA t9.oa t9.len.1 i0 i1
  obtain ⟨h', p1, p2⟩ := t9.put (i := i.toNat) (by omega) (v * 2 ^ (b + 1) + p)
  have p3 : wr h9 ba (place (addN 0 0) i 1) [.int .u64 (v * 2 ^ (b + 1) + p)] h' := by rw [pj]; exact wr_at hA p1
  rw [← eo, ← ep] at p3
  generalize at' O i = o at *
  ((try (conv => cbv)); repeat ((first | refine brk_ok hA ?_ | refine ⟨in_ok hA (by omega) (by omega), ?_⟩ | refine ⟨nz_ok hA (by omega), ?_⟩ | refine ⟨geZ_ok hA (by omega), ?_⟩ | refine ⟨ne_ok hA (by omega), ?_⟩ | refine ⟨wrote_no hA (by assumption), ?_⟩ | refine ⟨wrote_no hA (.refl _), ?_⟩ | refine ⟨_, ‹rd _ _ _ _ _›, ?_⟩ | refine ⟨_, ‹wr _ _ _ _ _›, ?_⟩); (try (conv => cbv))))
  rw [sb, subU hA (by omega) (by omega)]
  exact h2 c _ p2

omit hA in
/-- One more bit. -/
theorem bit_step {X r0 T n r qd p : Int} {m : Nat} (hX : X = r0 * 4294967296 + T) (T0 : 0 ≤ T) (hm : m < 32) (hp : p = 2 ^ m) (hi : X / 2 ^ (m + 1) = qd * n + r) {r' : Int} (hr' : r' = r * 2 + T / p % 2) : X / 2 ^ m = 2 * qd * n + r' := by
  have hp0 : 0 < p := by rw [hp]; exact Int.pow_pos (by omega)
  have e1 : X / 2 ^ (m + 1) = X / p / 2 := by rw [Int.pow_succ, ← hp, Int.ediv_ediv_of_nonneg (Int.le_of_lt hp0)]
  obtain ⟨k, hk⟩ : ∃ k : Int, (4294967296 : Int) = p * (2 * k) := ⟨2 ^ (31 - m), by
    have : (4294967296 : Int) = 2 ^ (m + (1 + (31 - m))) := by rw [show m + (1 + (31 - m)) = 32 by omega]; rfl
    rw [this, Int.pow_add, Int.pow_add, ← hp]; rfl⟩
  have e2 : X / p = r0 * k * 2 + T / p := by
    rw [hX, hk, show r0 * (p * (2 * k)) + T = T + p * (r0 * k * 2) by grind, Int.add_mul_ediv_left _ _ (by omega)]
    omega
  rw [← hp]
  rw [e1] at hi
  have e3 : X / p = 2 * (X / p / 2) + T / p % 2 := by
    have : X / p % 2 = T / p % 2 := by rw [e2]; omega
    omega
  rw [e3, hi, hr']
  grind

theorem over_bits {h0 : AHeap} {ba bb : Nat} {O A : List Int} {i n r0 X : Int} (i0 : 0 ≤ i) (i1 : i < 4) (n0 : 0 < n) (n1 : n < 4611686018427387904) (r00 : 0 ≤ r0) (r01 : r0 < n) (T0 : 0 ≤ at' A i) (T1 : at' A i < 4294967296) (hX : X = r0 * 4294967296 + at' A i) {K : List Value} {Q : Exit → SS → Prop}
    (hQ : ∀ h' qd r, Duo h0 h' ba bb (O.set i.toNat qd) A → X = qd * n + r → 0 ≤ r → r < n → 0 ≤ qd → head 88 6 1 ⟨[(1, .int .u64 n), (2, .pointer (some ⟨bb, 0, none⟩)), (4, .pointer (some ⟨0, 0, some 0⟩)), (6, .pointer (some ⟨ba, 0, none⟩)), (7, .int .u64 r), (8, .int .i64 i), (9, .int .i64 (-1))], 1, [(0, K)], h'⟩ Q) :
    ∀ (m : Nat) (h : AHeap) (r qd z : Int), z = (m : Int) - 1 → m ≤ 32 → Duo h0 h ba bb (O.set i.toNat (qd * 2 ^ m)) A → X / 2 ^ m = qd * n + r → 0 ≤ r → r < n → 0 ≤ qd →
    head 88 6 1 ⟨[(1, .int .u64 n), (2, .pointer (some ⟨bb, 0, none⟩)), (4, .pointer (some ⟨0, 0, some 0⟩)), (6, .pointer (some ⟨ba, 0, none⟩)), (7, .int .u64 r), (8, .int .i64 i), (9, .int .i64 z)], 1, [(0, K)], h⟩ Q := by
  intro m
  induction m with
  | zero =>
    intro h r qd z hz _ t hi q1 q2 q3
    obtain rfl : z = -1 := by omega
    rw [Int.pow_zero, Int.mul_one] at t
    rw [Int.pow_zero, Int.ediv_one] at hi
    exact hQ h qd r t hi q1 q2 q3
  | succ m ih =>
    intro h r qd z hz hm t hi q1 q2 q3
    obtain rfl : z = (m : Int) := by omega
    have hlen : O.length = 4 := by simpa using t.len.1
    obtain ⟨p, hp⟩ : ∃ z : Int, z = 2 ^ m := ⟨_, rfl⟩
    have hp0 : 0 < p := by rw [hp]; exact Int.pow_pos (by omega)
    have hp1 : (2 : Int) ^ (m + 1) = 2 * p := by rw [hp, Int.pow_succ, Int.mul_comm]
    have hXn : X < n * 4294967296 := by
      have : r0 * 4294967296 + 4294967296 ≤ n * 4294967296 := by omega
      omega
    have hp2 : p ≤ 2147483648 := by
      have : (2 : Int) ^ m ≤ 2 ^ 31 := by
        have := Nat.pow_le_pow_right (n := 2) (by omega) (show m ≤ 31 by omega)
        exact_mod_cast this
      rw [hp]; exact this
    have hb : qd * 2 ^ (m + 1) < 4294967296 := by
      have k1 : 2 ^ (m + 1) * (X / 2 ^ (m + 1)) ≤ X := Int.mul_ediv_self_le (by omega)
      rw [hi] at k1
      have k2 : n * (qd * 2 ^ (m + 1)) ≤ X := by
        have : 0 ≤ 2 ^ (m + 1) * r := Int.mul_nonneg (by omega) q1
        have e : (2 : Int) ^ (m + 1) * (qd * n + r) = n * (qd * 2 ^ (m + 1)) + 2 ^ (m + 1) * r := by grind
        omega
      exact Int.lt_of_mul_lt_mul_left (a := n) (by omega) (by omega)
    obtain ⟨r', hr'⟩ : ∃ z, z = r * 2 + at' A i / 2 ^ m % 2 := ⟨_, rfl⟩
    have e4 := bit_step (r' := r') hX T0 (by omega) hp hi (by rw [hp]; exact hr')
    have hv : at' (O.set i.toNat (qd * 2 ^ (m + 1))) i = qd * 2 ^ (m + 1) := by rw [at'_set O i0 i0 (by omega), if_pos rfl]
    refine over_step hA t i0 i1 (by omega) n1 q1 q2 hr' T0 T1 hv q3 (by rw [← hp]; omega) (fun c h' t' => ?_) (fun c h' t' => ?_)
    · refine ih h' r' (2 * qd) _ rfl (by omega) ?_ e4 (by omega) c (by omega)
      rw [show 2 * qd * 2 ^ m = qd * 2 ^ (m + 1) by rw [hp1, ← hp]; grind]
      exact t'
    · refine ih h' (r' - n) (2 * qd + 1) _ rfl (by omega) ?_ (by rw [e4]; grind) (by omega) (by omega) (by omega)
      rw [show (2 * qd + 1) * 2 ^ m = qd * 2 ^ (m + 1) + 2 ^ m by rw [hp1, ← hp]; grind]
      rw [List.set_set] at t'
      exact t'

theorem over_digit {h0 h : AHeap} {ba bb : Nat} {O A : List Int} {i n r0 X : Int} (i0 : 0 ≤ i) (i1 : i < 4) (n0 : 0 < n) (n1 : n < 4611686018427387904) (r00 : 0 ≤ r0) (r01 : r0 < n) (T0 : 0 ≤ at' A i) (T1 : at' A i < 4294967296) (hX : X = r0 * 4294967296 + at' A i) (t : Duo h0 h ba bb O A) (hz : at' O i = 0) {K : List Value} {Q : Exit → SS → Prop}
    (hQ : ∀ h', Duo h0 h' ba bb (O.set i.toNat (X / n)) A → head 88 3 1 ⟨[(1, .int .u64 n), (2, .pointer (some ⟨bb, 0, none⟩)), (4, .pointer (some ⟨0, 0, some 0⟩)), (6, .pointer (some ⟨ba, 0, none⟩)), (7, .int .u64 (X % n)), (8, .int .i64 (i - 1))], 1, [(0, K)], h'⟩ Q) :
    head 88 3 1 ⟨[(1, .int .u64 n), (2, .pointer (some ⟨bb, 0, none⟩)), (4, .pointer (some ⟨0, 0, some 0⟩)), (6, .pointer (some ⟨ba, 0, none⟩)), (7, .int .u64 r0), (8, .int .i64 i)], 1, [(0, K)], h⟩ Q := by
  refine hA.roundR Try.func88 r88_ok ?_; (try (conv => cbv)); repeat (refine brk_ok hA ?_; (try (conv => cbv)))
  refine br (0 ≤ i) (by rw [e_geq hA]) (fun _ => ?_) (fun q => absurd i0 q) <;> (try (conv => cbv)) <;> repeat (refine brk_ok hA ?_; (try (conv => cbv)))
  have hl : O.length = 4 := t.len.1
  refine over_bits hA (h0 := h0) (O := O) (A := A) i0 i1 n0 n1 r00 r01 T0 T1 hX (fun h' qd r t' hx q1 q2 q3 => ?_) 32 h r0 0 31 (by omega) (by omega) ?_ ?_ r00 r01 (by omega)
  rotate_left
  · rw [Int.zero_mul]
    have : O.set i.toNat 0 = O := by
      refine list_ext' (by simp) (fun j j0 j1 => ?_)
      rw [at'_set O i0 j0 (by omega)]
      split
      · rename_i e; rw [e, hz]
      · rfl
    rw [this]; exact t
  · rw [hX, Int.zero_mul, Int.zero_add]
    show (r0 * 4294967296 + at' A i) / 4294967296 = r0
    omega
  have hq : X / n = qd := by
    rw [hx, Int.add_comm, Int.add_mul_ediv_right _ _ (by omega), Int.ediv_eq_zero_of_lt q1 q2]; omega
  have hr : X % n = r := by
    rw [hx, Int.add_comm, Int.add_mul_emod_self_right]; exact Int.emod_eq_of_lt q1 q2
  rw [hq, hr] at hQ
  refine hA.roundR Try.func88 r88_ok ?_; (try (conv => cbv)); repeat (refine brk_ok hA ?_; (try (conv => cbv)))
  refine br (False) (by rw [e_geq hA]; rfl) (fun q => q.elim) (fun _ => ?_) <;> (try (conv => cbv)) <;> repeat (refine brk_ok hA ?_; (try (conv => cbv)))
  rw [sub64 hA (by omega) (by omega)]
  exact hQ h' t'

theorem over_ok {h : AHeap} (hlow : h.low ≤ h.next) {a0 a1 a2 a3 M n : Int} (hm : Dig4 M a0 a1 a2 a3) (n0 : 0 < n) (n1 : n < 4611686018427387904) {Q : Value → AHeap → Prop}
    (hQ : ∀ d0 d1 d2 d3 r h', Dig4 (M / n) d0 d1 d2 d3 → r = M % n → Ext h h' → Q (.tuple #[.agg #[.int .u64 d0, .int .u64 d1, .int .u64 d2, .int .u64 d3], .int .u64 r]) h') : call 88 [.agg #[.int .u64 a0, .int .u64 a1, .int .u64 a2, .int .u64 a3], .int .u64 n] h Q := by
  obtain ⟨m1, m2, m3, m4, m5⟩ := hm
  refine hA.bodyR Try.func88 r88_ok (hA.alike _ _ _ rfl) hlow ?_; (try (conv => cbv)); repeat (refine brk_ok hA ?_; (try (conv => cbv)))
  rw [e_next hA, e_push hA, e_next hA, e_push hA]
  have e1 : Ext h (h.push 4 [Value.int .u64 a0, Value.int .u64 a1, Value.int .u64 a2, Value.int .u64 a3]) := .push _ _ _
  have o1 : Own (h.push 4 [Value.int .u64 a0, Value.int .u64 a1, Value.int .u64 a2, Value.int .u64 a3]) h.next 4 [Value.int .u64 a0, Value.int .u64 a1, Value.int .u64 a2, Value.int .u64 a3] := Own.push _ _ _
  have n1' : (h.push 4 [Value.int .u64 a0, Value.int .u64 a1, Value.int .u64 a2, Value.int .u64 a3]).next = h.next + 1 := rfl
  generalize h.push 4 [Value.int .u64 a0, Value.int .u64 a1, Value.int .u64 a2, Value.int .u64 a3] = h1 at *
  have e2 : Ext h1 (h1.push 4 [Value.int .u64 0, Value.int .u64 0, Value.int .u64 0, Value.int .u64 0]) := .push _ _ _
  have o2 : Own (h1.push 4 [Value.int .u64 0, Value.int .u64 0, Value.int .u64 0, Value.int .u64 0]) h1.next 4 [Value.int .u64 0, Value.int .u64 0, Value.int .u64 0, Value.int .u64 0] := Own.push _ _ _
  have n2' : (h1.push 4 [Value.int .u64 0, Value.int .u64 0, Value.int .u64 0, Value.int .u64 0]).next = h1.next + 1 := rfl
  generalize h1.push 4 [Value.int .u64 0, Value.int .u64 0, Value.int .u64 0, Value.int .u64 0] = h2 at *
  obtain ⟨bb, hbb⟩ : ∃ z, z = h.next := ⟨_, rfl⟩
  obtain ⟨ba, hba⟩ : ∃ z, z = h1.next := ⟨_, rfl⟩
  rw [← hbb] at o1
  rw [← hba] at o2
  rw [← hba, ← hbb]
  obtain ⟨h3, w1, p1, q1⟩ := o2.write (o := 0) (vs := [.int .u64 0, .int .u64 0, .int .u64 0, .int .u64 0]) (by simp)
  refine ⟨h3, wr_at hA w1, ?_⟩
  ((try (conv => cbv)); repeat (refine brk_ok hA ?_; (try (conv => cbv))))
  have m6 := q1.next
  have t0 : Duo h h3 ba bb [0, 0, 0, 0] [a0, a1, a2, a3] := ⟨q1.ext (e1.trans e2) (by omega), p1, q1.own (o1.ext e2 (by omega)) (by omega), ⟨by omega, by omega⟩, by omega, by omega, rfl, rfl⟩
  obtain ⟨x3, hx3⟩ : ∃ z, z = 0 * 4294967296 + a3 := ⟨_, rfl⟩
  have b3 := Int.emod_nonneg x3 (show n ≠ 0 by omega)
  have c3 := Int.emod_lt_of_pos x3 n0
  obtain ⟨x2, hx2⟩ : ∃ z, z = x3 % n * 4294967296 + a2 := ⟨_, rfl⟩
  have b2 := Int.emod_nonneg x2 (show n ≠ 0 by omega)
  have c2 := Int.emod_lt_of_pos x2 n0
  obtain ⟨x1, hx1⟩ : ∃ z, z = x2 % n * 4294967296 + a1 := ⟨_, rfl⟩
  have b1 := Int.emod_nonneg x1 (show n ≠ 0 by omega)
  have c1 := Int.emod_lt_of_pos x1 n0
  obtain ⟨x0, hx0⟩ : ∃ z, z = x1 % n * 4294967296 + a0 := ⟨_, rfl⟩
  have b0 := Int.emod_nonneg x0 (show n ≠ 0 by omega)
  have c0 := Int.emod_lt_of_pos x0 n0
  have g3 := Int.mul_ediv_add_emod x3 n
  have g2 := Int.mul_ediv_add_emod x2 n
  have g1 := Int.mul_ediv_add_emod x1 n
  have g0 := Int.mul_ediv_add_emod x0 n
  have small : ∀ r x a : Int, 0 ≤ r → r < n → 0 ≤ a → a < 4294967296 → x = r * 4294967296 + a → 0 ≤ x / n ∧ x / n < 4294967296 := by
    intro r x a r0 r1 a0 a1 hx
    refine ⟨Int.ediv_nonneg (by omega) (by omega), Int.ediv_lt_of_lt_mul n0 (by omega)⟩
  have s3 := small 0 x3 a3 (by omega) n0 m5.1 m5.2 hx3
  have s2 := small _ x2 a2 b3 c3 m4.1 m4.2 hx2
  have s1 := small _ x1 a1 b2 c2 m3.1 m3.2 hx1
  have s0 := small _ x0 a0 b1 c1 m2.1 m2.2 hx0
  refine over_digit hA (A := [a0, a1, a2, a3]) (i := 3) (by omega) (by omega) n0 n1 (by omega) n0 m5.1 m5.2 hx3 t0 rfl (fun h4 t4 => ?_)
  rw [show (3 : Int) - 1 = 2 from rfl]
  refine over_digit hA (A := [a0, a1, a2, a3]) (i := 2) (by omega) (by omega) n0 n1 b3 c3 m4.1 m4.2 hx2 t4 rfl (fun h5 t5 => ?_)
  rw [show (2 : Int) - 1 = 1 from rfl]
  refine over_digit hA (A := [a0, a1, a2, a3]) (i := 1) (by omega) (by omega) n0 n1 b2 c2 m3.1 m3.2 hx1 t5 rfl (fun h6 t6 => ?_)
  rw [show (1 : Int) - 1 = 0 from rfl]
  refine over_digit hA (A := [a0, a1, a2, a3]) (i := 0) (by omega) (by omega) n0 n1 b1 c1 m2.1 m2.2 hx0 t6 rfl (fun h7 t7 => ?_)
  have key : M = (x0 / n + 4294967296 * (x1 / n) + 18446744073709551616 * (x2 / n) + 79228162514264337593543950336 * (x3 / n)) * n + x0 % n := by
    rw [m1]
    grind
  obtain ⟨a, ha⟩ : ∃ z, z = x0 / n := ⟨_, rfl⟩
  obtain ⟨b, hb⟩ : ∃ z, z = x1 / n := ⟨_, rfl⟩
  obtain ⟨c, hc⟩ : ∃ z, z = x2 / n := ⟨_, rfl⟩
  obtain ⟨d, hd⟩ : ∃ z, z = x3 / n := ⟨_, rfl⟩
  obtain ⟨r, hr⟩ : ∃ z, z = x0 % n := ⟨_, rfl⟩
  have t7' : Duo h h7 ba bb [x0 / n, x1 / n, x2 / n, x3 / n] [a0, a1, a2, a3] := t7
  rw [← ha, ← hb, ← hc, ← hd] at key t7'
  rw [← ha] at s0
  rw [← hb] at s1
  rw [← hc] at s2
  rw [← hd] at s3
  rw [← hr] at key b0 c0 ⊢
  have f1 : M / n = a + 4294967296 * b + 18446744073709551616 * c + 79228162514264337593543950336 * d := by
    rw [key, Int.add_comm, Int.add_mul_ediv_right _ _ (by omega), Int.ediv_eq_zero_of_lt b0 c0]; omega
  have f2 : r = M % n := by
    rw [key, Int.add_comm, Int.add_mul_emod_self_right]; exact (Int.emod_eq_of_lt b0 c0).symm
  refine hA.roundR Try.func88 r88_ok ?_; (try (conv => cbv)); repeat (refine brk_ok hA ?_; (try (conv => cbv)))
  refine br (False) (by rw [e_geq hA]; rfl) (fun q => q.elim) (fun _ => ?_) <;> (try (conv => cbv)) <;> repeat (refine brk_ok hA ?_; (try (conv => cbv)))
  have rd4 : h7.readG ⟨ba, 0, none⟩ 4 = some [.int .u64 a, .int .u64 b, .int .u64 c, .int .u64 d] := t7'.oa.readG (by simp)
  refine ⟨a, b, c, d, rd_at hA rd4, ?_⟩
  ((try (conv => cbv)); repeat (refine brk_ok hA ?_; (try (conv => cbv))))
  exact hQ a b c d r h7 ⟨f1, s0, s1, s2, s3⟩ f2 t7'.ext

end Go.Proofs.Ytnokkniofajnhaa
