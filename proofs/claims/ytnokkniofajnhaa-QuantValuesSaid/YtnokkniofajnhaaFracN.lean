/-
  NUMBERS OF 128 BITS: the division of two digits by one.
-/
import Derived.Test.YtnokkniofajnhaaFracP
namespace Go.Proofs.Ytnokkniofajnhaa
set_option linter.unusedVariables false

theorem mul_split {y y1 y0 q : Int} (hy : y = y1 * 4294967296 + y0) : q * y = 4294967296 * (q * y1) + q * y0 := by rw [hy]; grind

/-- The digit is too great just if its product is. -/
theorem dig_cond {q y y1 y0 u d N r : Int} (hy : y = y1 * 4294967296 + y0) (hr : r = u - q * y1) (hN : N = u * 4294967296 + d) : q * y0 > 4294967296 * r + d ↔ N < q * y := by
  have e1 := mul_split (q := q) hy
  omega
theorem dig_gt {q y N : Int} (hy : 0 < y) : N < q * y ↔ N / y < q := (Int.ediv_lt_iff_lt_mul hy).symm
/-- The first guess is not too small. -/
theorem dig_first {y y1 y0 u d N : Int} (hy : y = y1 * 4294967296 + y0) (h1 : 0 < y1) (h0 : 0 ≤ y0) (hu : 0 ≤ u) (hd : 0 ≤ d) (hd1 : d < 4294967296) (hN : N = u * 4294967296 + d) : N / y ≤ u / y1 := by
  have hyp : 0 < y := by omega
  have hq : 0 ≤ N / y := Int.ediv_nonneg (by omega) (by omega)
  have h2 : N / y * y ≤ N := Int.ediv_mul_le _ (by omega)
  have e1 := mul_split (q := N / y) hy
  have h3 : 0 ≤ N / y * y0 := Int.mul_nonneg hq h0
  have h4 : N / y * y1 ≤ u := by omega
  exact (Int.le_ediv_iff_mul_le h1).2 h4
theorem dig_small {y u d N : Int} (hy : 0 < y) (hu : u < y) (hd1 : d < 4294967296) (hN : N = u * 4294967296 + d) : N / y < 4294967296 := by
  rw [Int.ediv_lt_iff_lt_mul hy]
  omega
/-- The first guess is at most one more than the greatest digit and one. -/
theorem dig_first_le {y y1 y0 u : Int} (hy : y = y1 * 4294967296 + y0) (h1 : 2147483648 ≤ y1) (h0 : y0 < 4294967296) (hu : u < y) (hu0 : 0 ≤ u) : u / y1 ≤ 4294967297 := by
  have : u / y1 < 4294967298 := by
    rw [Int.ediv_lt_iff_lt_mul (by omega)]
    omega
  omega

theorem ediv_of {a b q r : Int} (hb : 0 < b) (h : a = q * b + r) (h0 : 0 ≤ r) (h1 : r < b) : a / b = q ∧ a % b = r := by
  constructor
  · rw [h, Int.add_comm, Int.add_mul_ediv_right _ _ (by omega), Int.ediv_eq_zero_of_lt h0 h1]; omega
  · rw [h, Int.add_comm, Int.add_mul_emod_self_right, Int.emod_eq_of_lt h0 h1]

theorem mul_bd {a b : Int} (M N : Int) (a0 : 0 ≤ a) (a1 : a ≤ M) (b0 : 0 ≤ b) (b1 : b ≤ N) : 0 ≤ a * b ∧ a * b ≤ M * N :=
  ⟨Int.mul_nonneg a0 b0, Int.mul_le_mul a1 b1 b0 (by omega)⟩
theorem mul_parts4 (x1 x0 y1 y0 : Int) : (x1 * 4294967296 + x0) * (y1 * 4294967296 + y0) = 18446744073709551616 * (x1 * y1) + 4294967296 * (x1 * y0) + 4294967296 * (x0 * y1) + x0 * y0 := by grind
/-- The product of two numbers of 64 bits, by halves. -/
theorem mul128 {x y : Int} (hx0 : 0 ≤ x) (hx1 : x < 18446744073709551616) (hy0 : 0 ≤ y) (hy1 : y < 18446744073709551616) {a b c d t w : Int}
    (ha : a = x % 4294967296 * (y % 4294967296)) (hb : b = x / 4294967296 * (y % 4294967296)) (hc : c = x % 4294967296 * (y / 4294967296)) (hd : d = x / 4294967296 * (y / 4294967296)) (ht : t = b + a / 4294967296) (hw : w = t % 4294967296 + c) :
    (0 ≤ a ∧ a ≤ 18446744065119617025) ∧ (0 ≤ b ∧ b ≤ 18446744065119617025) ∧ (0 ≤ c ∧ c ≤ 18446744065119617025) ∧ (0 ≤ d ∧ d ≤ 18446744065119617025) ∧ x * y = 18446744073709551616 * d + 4294967296 * b + 4294967296 * c + a ∧ d + t / 4294967296 + w / 4294967296 = x * y / 18446744073709551616 := by
  have m1 := mul_bd 4294967295 4294967295 (a := x % 4294967296) (b := y % 4294967296) (by omega) (by omega) (by omega) (by omega)
  have m2 := mul_bd 4294967295 4294967295 (a := x / 4294967296) (b := y % 4294967296) (by omega) (by omega) (by omega) (by omega)
  have m3 := mul_bd 4294967295 4294967295 (a := x % 4294967296) (b := y / 4294967296) (by omega) (by omega) (by omega) (by omega)
  have m4 := mul_bd 4294967295 4294967295 (a := x / 4294967296) (b := y / 4294967296) (by omega) (by omega) (by omega) (by omega)
  have e := mul_parts4 (x / 4294967296) (x % 4294967296) (y / 4294967296) (y % 4294967296)
  rw [show x / 4294967296 * 4294967296 + x % 4294967296 = x by omega, show y / 4294967296 * 4294967296 + y % 4294967296 = y by omega, ← ha, ← hb, ← hc, ← hd] at e
  rw [← ha] at m1
  rw [← hb] at m2
  rw [← hc] at m3
  rw [← hd] at m4
  refine ⟨by omega, by omega, by omega, by omega, e, ?_⟩
  rw [e]
  omega

/-- Scaled. -/
theorem div_done {X y P Q r : Int} (hP : 0 < P) (hy : 0 < y) (h : X * P = Q * (y * P) + r) (r0 : 0 ≤ r) (r1 : r < y * P) : Q = X / y ∧ r / P = X % y := by
  have hyP : 0 < y * P := Int.mul_pos hy hP
  obtain ⟨e1, e2⟩ := ediv_of hyP h r0 r1
  rw [Int.mul_ediv_mul_of_pos_left _ _ hP] at e1
  rw [Int.mul_comm X P, Int.mul_comm y P, Int.mul_emod_mul_of_pos _ _ hP, Int.mul_comm] at e2
  refine ⟨e1.symm, ?_⟩
  rw [← e2, Int.mul_ediv_cancel _ (by omega)]
/-- Two digits. -/
theorem two_digits {N1 y q1 q0 u1 u0 N : Int} (hy : 0 < y) (h1 : q1 = N1 / y) (h2 : q0 = (N1 % y * 4294967296 + u0) / y) (hN : N = N1 * 4294967296 + u0) : N = (q1 * 4294967296 + q0) * y + (N1 % y * 4294967296 + u0) % y ∧ 0 ≤ (N1 % y * 4294967296 + u0) % y ∧ (N1 % y * 4294967296 + u0) % y < y := by
  have a := Int.mul_ediv_add_emod N1 y
  have b := Int.mul_ediv_add_emod (N1 % y * 4294967296 + u0) y
  rw [← h1] at a
  rw [← h2] at b
  refine ⟨?_, Int.emod_nonneg _ (by omega), Int.emod_lt_of_pos _ hy⟩
  have e : (q1 * 4294967296 + q0) * y = 4294967296 * (y * q1) + y * q0 := by grind
  rw [e, hN]
  omega
/-- The digits of a number that was shifted. -/
theorem shifted {lo : Int} (h0 : 0 ≤ lo) {s : Nat} (hs : s ≤ 64) : lo * 2 ^ s = lo / 2 ^ (64 - s) * 18446744073709551616 + lo * 2 ^ s % 18446744073709551616 ∧ lo * 2 ^ s / 18446744073709551616 = lo / 2 ^ (64 - s) := by
  have e : (18446744073709551616 : Int) = 2 ^ (64 - s) * 2 ^ s := by
    rw [← Int.pow_add, show 64 - s + s = 64 by omega]
    rfl
  have hp : (0 : Int) < 2 ^ s := Int.pow_pos (by omega)
  have d : lo * 2 ^ s / 18446744073709551616 = lo / 2 ^ (64 - s) := by
    rw [e, Int.mul_ediv_mul_of_pos_left _ _ hp]
  refine ⟨?_, d⟩
  rw [← d]
  omega

end Go.Proofs.Ytnokkniofajnhaa
