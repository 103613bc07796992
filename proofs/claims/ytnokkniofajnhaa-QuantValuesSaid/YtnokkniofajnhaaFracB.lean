/-
  FRACTIONS, AS SUCH: how great sums, products and quotients are; comparing.
-/
import Derived.Test.YtnokkniofajnhaaFracQ
namespace Go.Proofs.Ytnokkniofajnhaa
set_option linter.unusedVariables false

def bnd (q : Rat) (N D : Nat) : Prop := q.num.natAbs ≤ N ∧ q.den ≤ D
theorem bnd.fits {q : Rat} {N D : Nat} (h : bnd q N D) (hN : N ≤ 1000000000000000000) (hD : D ≤ 1000000000000000000) : fits q := by
  obtain ⟨h1, h2⟩ := h
  exact ⟨by omega, by omega, by omega⟩
theorem bnd.mono {q : Rat} {N D N' D' : Nat} (h : bnd q N D) (hN : N ≤ N') (hD : D ≤ D') : bnd q N' D' := ⟨Nat.le_trans h.1 hN, Nat.le_trans h.2 hD⟩
theorem natAbs_div_le (a : Int) (n : Nat) : (a / (n : Int)).natAbs ≤ a.natAbs := Int.natAbs_ediv_le_natAbs _ _
theorem bnd.add {p q : Rat} {N D M E : Nat} (h : bnd p N D) (k : bnd q M E) : bnd (p + q) (N * E + M * D) (D * E) := by
  obtain ⟨h1, h2⟩ := h
  obtain ⟨k1, k2⟩ := k
  constructor
  · rw [Rat.num_add]
    refine Nat.le_trans (natAbs_div_le _ _) ?_
    refine Nat.le_trans (Int.natAbs_add_le _ _) ?_
    rw [Int.natAbs_mul, Int.natAbs_mul]
    exact Nat.add_le_add (Nat.mul_le_mul h1 k2) (Nat.mul_le_mul k1 h2)
  · rw [Rat.den_add]
    exact Nat.le_trans (Nat.div_le_self _ _) (Nat.mul_le_mul h2 k2)
theorem bnd.neg {p : Rat} {N D : Nat} (h : bnd p N D) : bnd (-p) N D := ⟨by rw [Rat.neg_num, Int.natAbs_neg]; exact h.1, h.2⟩
theorem bnd.sub {p q : Rat} {N D M E : Nat} (h : bnd p N D) (k : bnd q M E) : bnd (p - q) (N * E + M * D) (D * E) := by
  rw [Rat.sub_eq_add_neg]; exact h.add k.neg
theorem bnd.mul {p q : Rat} {N D M E : Nat} (h : bnd p N D) (k : bnd q M E) : bnd (p * q) (N * M) (D * E) := by
  obtain ⟨h1, h2⟩ := h
  obtain ⟨k1, k2⟩ := k
  constructor
  · rw [Rat.num_mul]
    refine Nat.le_trans (natAbs_div_le _ _) ?_
    rw [Int.natAbs_mul]
    exact Nat.mul_le_mul h1 k1
  · rw [Rat.den_mul]
    exact Nat.le_trans (Nat.div_le_self _ _) (Nat.mul_le_mul h2 k2)
theorem bnd.inv {p : Rat} {N D : Nat} (h : bnd p N D) (hN : 1 ≤ N) : bnd p⁻¹ D N := by
  obtain ⟨h1, h2⟩ := h
  constructor
  · rw [Rat.num_inv, Int.natAbs_mul]
    have : p.num.sign.natAbs ≤ 1 := by
      rcases Int.lt_trichotomy p.num 0 with c | c | c
      · rw [Int.sign_eq_neg_one_of_neg c]; decide
      · rw [c]; decide
      · rw [Int.sign_eq_one_of_pos c]; decide
    have := Nat.mul_le_mul this (Nat.le_refl (p.den : Int).natAbs)
    simp at this ⊢
    omega
  · rw [Rat.den_inv]
    split <;> omega
theorem bnd.div {p q : Rat} {N D M E : Nat} (h : bnd p N D) (k : bnd q M E) (hM : 1 ≤ M) : bnd (p / q) (N * E) (D * M) := by
  rw [Rat.div_def]; exact h.mul (k.inv hM)

/-- The inverse of a fraction. -/
theorem isF.inv {n d : Int} {q : Rat} (h : isF n d q) (hn : n ≠ 0) : isF (if n < 0 then -d else d) (if n < 0 then -n else n) q⁻¹ := by
  obtain ⟨rfl, rfl, h1, h2, h3⟩ := h
  have hd := q.den_pos
  refine ⟨?_, ?_, ?_⟩
  · rw [Rat.num_inv]
    rcases Int.lt_trichotomy q.num 0 with c | c | c
    · rw [if_pos c, Int.sign_eq_neg_one_of_neg c]; omega
    · exact absurd c hn
    · rw [if_neg (by omega), Int.sign_eq_one_of_pos c]; omega
  · rw [Rat.den_inv, if_neg hn]
    split <;> omega
  · unfold fits
    rw [Rat.num_inv, Rat.den_inv, if_neg hn]
    rcases Int.lt_trichotomy q.num 0 with c | c | c
    · rw [Int.sign_eq_neg_one_of_neg c]; omega
    · exact absurd c hn
    · rw [Int.sign_eq_one_of_pos c]; omega
theorem isF.neg {n d : Int} {q : Rat} (h : isF n d q) : isF (-n) d (-q) := by
  obtain ⟨rfl, rfl, h1, h2, h3⟩ := h
  exact ⟨rfl, rfl, by unfold fits; rw [Rat.neg_num, Rat.neg_den]; omega⟩

/-- How two fractions compare. -/
def cmpF (p q : Rat) : Int := if p < q then -1 else if p = q then 0 else 1
theorem cmpF_lt {p q : Rat} : cmpF p q < 0 ↔ p < q := by
  unfold cmpF
  split
  · rename_i h; exact ⟨fun _ => h, fun _ => by omega⟩
  · rename_i h; split <;> exact ⟨fun w => by omega, fun w => absurd w h⟩
theorem cmpF_gt {p q : Rat} : 0 < cmpF p q ↔ q < p := by
  unfold cmpF
  split
  · rename_i h; exact ⟨fun w => by omega, fun w => by grind⟩
  · rename_i h
    split
    · rename_i h2; exact ⟨fun w => by omega, fun w => by grind⟩
    · rename_i h2; exact ⟨fun _ => by grind, fun _ => by omega⟩
theorem cmpF_of {p q : Rat} {c : Int} (hc : c = if p.num * q.den < q.num * p.den then -1 else if p.num * q.den = q.num * p.den then 0 else 1) : c = cmpF p q := by
  rw [hc]
  unfold cmpF
  have e1 := Rat.lt_iff p q
  have e2 : p = q ↔ p.num * q.den = q.num * p.den := Rat.eq_iff_mul_eq_mul
  by_cases h : p < q
  · rw [if_pos h, if_pos (e1.1 h)]
  · rw [if_neg h, if_neg (fun w => h (e1.2 w))]
    by_cases k : p = q
    · rw [if_pos k, if_pos (e2.1 k)]
    · rw [if_neg k, if_neg (fun w => k (e2.2 w))]

end Go.Proofs.Ytnokkniofajnhaa
