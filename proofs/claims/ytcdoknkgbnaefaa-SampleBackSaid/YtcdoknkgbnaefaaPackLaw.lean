/-
  PACKING, IN PLAIN LEAN: the bytes of a list, the list of bytes, and that they fit.
-/
import Derived.Test.YtcdoknkgbnaefaaDigit
namespace Go.Proofs.Ytcdoknkgbnaefaa
open Go.Sim
set_option linter.unusedVariables false

/-- The digit at a place; 0 beyond the end. -/
def dg (l : List Int) (i : Int) : Int := if i < l.length then digitF (at' l i) else 0
/-- What stands in a byte when the samples from 'i' on are packed. -/
def packS (l : List Int) (i j : Int) : Int := if i ≤ 3 * j then dg l (3 * j) + 5 * dg l (3 * j + 1) + 25 * dg l (3 * j + 2) else if i = 3 * j + 1 then dg l (3 * j + 1) + 5 * dg l (3 * j + 2) else if i = 3 * j + 2 then dg l (3 * j + 2) else 0
/-- What stands in a byte when the samples before 'i' are packed. -/
def packP (l : List Int) (i j : Int) : Int := if i ≤ 3 * j then 0 else if i = 3 * j + 1 then dg l (3 * j) else if i = 3 * j + 2 then dg l (3 * j) + 5 * dg l (3 * j + 1) else dg l (3 * j) + 5 * dg l (3 * j + 1) + 25 * dg l (3 * j + 2)
def packB (l : List Int) (j : Int) : Int := dg l (3 * j) + 5 * dg l (3 * j + 1) + 25 * dg l (3 * j + 2)
def packN (n : Nat) : Nat := (n + 2) / 3
def packL (l : List Int) : List Int := (List.range (packN l.length)).map fun (j : Nat) => packB l j

theorem dg_bound (l : List Int) (hg : l.all good = true) {i : Int} (h0 : 0 ≤ i) : 0 ≤ dg l i ∧ dg l i ≤ 4 := by
  unfold dg
  split
  · rename_i h
    have h1 := List.all_eq_true.1 hg _ (at'_mem l h0 h)
    have h2 := digitF_le (at' l i)
    have h3 : 0 ≤ digitF (at' l i) := by simpa [good] using h1
    omega
  · omega

theorem dg_at (l : List Int) {i : Int} (h : i < l.length) : dg l i = digitF (at' l i) := by unfold dg; rw [if_pos h]
theorem dg_end (l : List Int) {i : Int} (h : (l.length : Int) ≤ i) : dg l i = 0 := by unfold dg; rw [if_neg (by omega)]

theorem packS_all (l : List Int) {i j : Int} (h : i ≤ 0) (hj : 0 ≤ j) : packS l i j = packB l j := by unfold packS packB; rw [if_pos (by omega)]
theorem packS_none (l : List Int) {i j : Int} (h : (l.length : Int) ≤ i) : packS l i j = 0 := by
  unfold packS
  split
  · rw [dg_end l (by omega), dg_end l (by omega), dg_end l (by omega)]; rfl
  · split
    · rw [dg_end l (by omega), dg_end l (by omega)]; rfl
    · split
      · rw [dg_end l (by omega)]
      · rfl
theorem packS_step (l : List Int) {i : Int} (h0 : 0 ≤ i) : packS l i (i / 3) = packS l (i + 1) (i / 3) * 5 + dg l i := by
  have h : i = 3 * (i / 3) ∨ i = 3 * (i / 3) + 1 ∨ i = 3 * (i / 3) + 2 := by omega
  generalize hj : i / 3 = j at h ⊢
  unfold packS
  rcases h with rfl | rfl | rfl
  · rw [if_pos (by omega), if_neg (by omega), if_pos (by omega)]; omega
  · rw [if_neg (by omega), if_pos rfl, if_neg (by omega), if_neg (by omega), if_pos (by omega)]; omega
  · rw [if_neg (by omega), if_neg (by omega), if_pos rfl, if_neg (by omega), if_neg (by omega), if_neg (by omega)]; omega
theorem packS_other (l : List Int) {i j : Int} (h : j ≠ i / 3) : packS l i j = packS l (i + 1) j := by
  unfold packS
  by_cases h1 : i ≤ 3 * j
  · rw [if_pos h1]
    by_cases h2 : i + 1 ≤ 3 * j
    · rw [if_pos h2]
    · omega
  · rw [if_neg h1, if_neg (by omega), if_neg (by omega), if_neg (by omega), if_neg (by omega), if_neg (by omega)]
theorem packS_bound (l : List Int) (hg : l.all good = true) {i j : Int} (hj : 0 ≤ j) : 0 ≤ packS l i j ∧ packS l i j ≤ 124 ∧ (3 * j < i → packS l i j ≤ 24) := by
  have h0 := dg_bound l hg (i := 3 * j) (by omega)
  have h1 := dg_bound l hg (i := 3 * j + 1) (by omega)
  have h2 := dg_bound l hg (i := 3 * j + 2) (by omega)
  unfold packS
  split
  · omega
  · split
    · omega
    · split <;> omega

theorem packP_none (l : List Int) {j : Int} (hj : 0 ≤ j) : packP l 0 j = 0 := by unfold packP; rw [if_pos (by omega)]
theorem packP_all (l : List Int) {i j : Int} (h : (l.length : Int) ≤ i) (hj : 0 ≤ j) : packP l i j = packB l j := by
  unfold packP packB
  split
  · rw [dg_end l (by omega), dg_end l (by omega), dg_end l (by omega)]; rfl
  · split
    · rw [dg_end l (i := 3 * j + 1) (by omega), dg_end l (i := 3 * j + 2) (by omega)]; omega
    · split
      · rw [dg_end l (i := 3 * j + 2) (by omega)]; omega
      · rfl
/-- 5 to the power of a place in a byte. -/
def pow3 (r : Int) : Int := if r = 0 then 1 else if r = 1 then 5 else 25
theorem packP_step (l : List Int) {i : Int} (h0 : 0 ≤ i) : packP l (i + 1) (i / 3) = packP l i (i / 3) + dg l i * pow3 (i % 3) := by
  have h : i = 3 * (i / 3) ∨ i = 3 * (i / 3) + 1 ∨ i = 3 * (i / 3) + 2 := by omega
  have hr : i % 3 = i - 3 * (i / 3) := by omega
  rw [hr]
  generalize hj : i / 3 = j at h ⊢
  unfold packP pow3
  rcases h with rfl | rfl | rfl
  · rw [if_neg (by omega), if_pos (by omega), if_pos (by omega), if_pos (by omega)]; omega
  · rw [if_neg (by omega), if_neg (by omega), if_pos (by omega), if_neg (by omega), if_pos (by omega), if_neg (by omega), if_pos (by omega)]; omega
  · rw [if_neg (by omega), if_neg (by omega), if_neg (by omega), if_neg (by omega), if_neg (by omega), if_pos (by omega), if_neg (by omega), if_neg (by omega)]; omega
theorem packP_other (l : List Int) {i j : Int} (h : j ≠ i / 3) : packP l (i + 1) j = packP l i j := by
  unfold packP
  by_cases h1 : i ≤ 3 * j
  · rw [if_pos h1]
    by_cases h2 : i + 1 ≤ 3 * j
    · rw [if_pos h2]
    · omega
  · rw [if_neg h1, if_neg (by omega), if_neg (by omega), if_neg (by omega), if_neg (by omega), if_neg (by omega)]
theorem packP_bound (l : List Int) (hg : l.all good = true) {i j : Int} (hj : 0 ≤ j) : 0 ≤ packP l i j ∧ packP l i j ≤ 124 := by
  have h0 := dg_bound l hg (i := 3 * j) (by omega)
  have h1 := dg_bound l hg (i := 3 * j + 1) (by omega)
  have h2 := dg_bound l hg (i := 3 * j + 2) (by omega)
  unfold packP
  split
  · omega
  · split
    · omega
    · split <;> omega

theorem packL_of {l m : List Int} (hl : m.length = packN l.length) (h : ∀ j : Int, 0 ≤ j → j < packN l.length → at' m j = packB l j) : m = packL l := by
  refine list_ext' (by rw [hl]; unfold packL; simp) (fun i h0 h1 => ?_)
  rw [h i h0 (by omega)]
  unfold packL
  rw [at'_range _ _ h0 (by omega)]

end Go.Proofs.Ytcdoknkgbnaefaa
