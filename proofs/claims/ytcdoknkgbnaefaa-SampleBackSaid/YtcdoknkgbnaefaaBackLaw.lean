/-
  PACKING AND UNPACKING ARE INVERSE, in plain Lean.
-/
import Derived.Test.YtcdoknkgbnaefaaRUnpack
namespace Go.Proofs.Ytcdoknkgbnaefaa
open Go.Sim
set_option linter.unusedVariables false

theorem valF_digit {x : Int} (h : good x = true) : valF (digitF x) = x := by
  simp only [good, decide_eq_true_eq] at h
  unfold digitF at h ⊢
  unfold valF
  (repeat' split at h) <;> first | omega | (simp; omega)

theorem packL_len (l : List Int) : (packL l).length = packN l.length := by unfold packL; simp

theorem packL_at (l : List Int) {j : Int} (h0 : 0 ≤ j) (h1 : j < packN l.length) : at' (packL l) j = packB l j := at'_range _ (packB l) h0 h1

theorem packL_bytes (l : List Int) (hg : l.all good = true) : bytesOK (packL l) := by
  intro x hx
  unfold packL at hx
  simp only [List.mem_map, List.mem_range] at hx
  obtain ⟨j, hj, rfl⟩ := hx
  have h1 := dg_bound l hg (i := 3 * (j : Int)) (by omega)
  have h2 := dg_bound l hg (i := 3 * (j : Int) + 1) (by omega)
  have h3 := dg_bound l hg (i := 3 * (j : Int) + 2) (by omega)
  unfold packB
  omega

theorem qd_pack (l : List Int) (hg : l.all good = true) {i : Int} (h0 : 0 ≤ i) (h1 : i < l.length) : qd (packL l) i = dg l i := by
  unfold qd
  rw [packL_at l (by omega) (by unfold packN; omega)]
  obtain ⟨j, hj⟩ : ∃ j, j = i / 3 := ⟨_, rfl⟩
  have d0 := dg_bound l hg (i := 3 * j) (by omega)
  have d1 := dg_bound l hg (i := 3 * j + 1) (by omega)
  have d2 := dg_bound l hg (i := 3 * j + 2) (by omega)
  rw [← hj]
  have hr : i % 3 = 0 ∨ i % 3 = 1 ∨ i % 3 = 2 := by omega
  unfold packB
  rcases hr with hr | hr | hr
  · rw [show i = 3 * j by omega, show 3 * j % 3 = 0 by omega]; simp [pw5]; omega
  · rw [show i = 3 * j + 1 by omega, show (3 * j + 1) % 3 = 1 by omega]; simp [pw5]; omega
  · rw [show i = 3 * j + 2 by omega, show (3 * j + 2) % 3 = 2 by omega]; simp [pw5]; omega

theorem out_pack (l : List Int) (hg : l.all good = true) : outL (packL l) l.length = l := by
  refine list_ext' (by rw [outL_len]) (fun i h0 h1 => ?_)
  rw [outL_len] at h1
  rw [outL_at _ _ h0 (by omega), qd_pack l hg h0 (by omega), dg_at l (by omega)]
  exact valF_digit (List.all_eq_true.1 hg _ (at'_mem l h0 (by omega)))

theorem unpackE_pack (l : List Int) (hg : l.all good = true) (hn : l.length ≤ 256) : unpackE (packL l) l.length = 0 := by
  unfold unpackE
  rw [if_neg (by omega), packL_len, if_neg (by unfold packN; omega), if_pos]
  intro k h0 h1
  rw [packL_len] at h1
  unfold okB
  rw [packL_at l h0 (by omega)]
  have d0 := dg_bound l hg (i := 3 * k) (by omega)
  have d1 := dg_bound l hg (i := 3 * k + 1) (by omega)
  have d2 := dg_bound l hg (i := 3 * k + 2) (by omega)
  unfold packN at h1
  unfold endOf packB
  split
  · have hr : (l.length : Int) - 3 * k = 1 ∨ (l.length : Int) - 3 * k = 2 := by omega
    rw [dg_end l (i := 3 * k + 2) (by omega)]
    rcases hr with hr | hr
    · rw [dg_end l (i := 3 * k + 1) (by omega), hr]; simp [pw5]; omega
    · rw [hr]; simp [pw5]; omega
  · rw [show 3 * k + 3 - 3 * k = 3 by omega]; simp [pw5]; omega

theorem pack_out (b : List Int) (hb : bytesOK b) {n : Int} (h : unpackE b n = 0) : packL (outL b n.toNat) = b ∧ 0 ≤ n ∧ n ≤ 256 ∧ (b.length : Int) = (n + 2) / 3 := by
  unfold unpackE at h
  split at h
  · omega
  split at h
  · omega
  split at h
  rotate_left
  · omega
  rename_i h1 h2 h3
  refine ⟨?_, by omega, by omega, by omega⟩
  symm
  refine packL_of (by rw [outL_len]; unfold packN; omega) (fun j hj0 hj1 => ?_)
  rw [outL_len] at hj1
  unfold packN at hj1
  symm
  rw [pack_eq b n.toNat (n := n) (by omega) hj0 (by omega)]
  · exact h3 j hj0 (by omega)
  · exact (hb _ (at'_mem b hj0 (by omega))).1

theorem outL_check (b : List Int) {n : Nat} (h : n ≤ 256) : checkF (outL b n) = 0 := by
  unfold checkF
  rw [outL_len, if_neg (by omega), outL_good]; rfl

theorem checkF_zero {l : List Int} (h : checkF l = 0) : l.length ≤ 256 ∧ l.all good = true := by
  unfold checkF at h
  split at h
  · omega
  split at h
  · rename_i h1 h2; exact ⟨by omega, h2⟩
  · omega

end Go.Proofs.Ytcdoknkgbnaefaa
