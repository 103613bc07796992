/-
  ASKING AND DROPPING KEEP A QUEUE VALID, in plain Lean.
-/
import Derived.Test.YtlpnmdknlfmjaaaTells
namespace Go.Proofs.Ytlpnmdknlfmjaaa
open Go.Sim
set_option linter.unusedVariables false

theorem find_self {l : List Proj} (ht : ¬ twice l) {i : Int} (h0 : 0 ≤ i) (h1 : i < l.length) : findF l (pj l i).name = i := by
  symm
  apply findF_spec
  refine .inl ⟨i.toNat, by omega, by omega, ?_, fun j hj => ?_⟩
  · show ((l.getD i.toNat noProj).name.toList == (l.getD i.toNat noProj).name.toList) = true
    exact beq_self_eq_true _
  · cases hb : ((l.getD j noProj).name.toList == (pj l i).name.toList) with
    | false => rfl
    | true =>
      refine absurd ⟨(j : Int), i, by omega, by omega, h1, ?_⟩ ht
      unfold sameName
      have : pj l (j : Int) = l.getD j noProj := by unfold pj; rw [Int.toNat_natCast]
      rw [this]
      exact hb

theorem setP_self {l : List Proj} {i : Int} (h0 : 0 ≤ i) (h1 : i < l.length) : setP l i (pj l i) = l := by
  refine projs_ext (setP_len _ _ _) (fun j j0 j1 => ?_)
  rw [pj_set h0 j0 h1]
  split
  · rename_i e; rw [e]
  · rfl

theorem set_valid {l : List Proj} {nu de : Int} (h : checkQ l nu de = 0) {i : Int} (h0 : 0 ≤ i) (h1 : i < l.length) {p : Proj} (hn : p.name = (pj l i).name) (hf : fits nu de p) : checkQ (setP l i p) nu de = 0 := by
  obtain ⟨h8, ht, hl, hd, hnu, ha⟩ := checkQ_zero h
  refine checkQ_mk (by rw [setP_len]; exact h8) (twice_set h0 h1 hn ht) (by rw [setP_len]; exact hl) hd hnu (fun j j0 j1 => ?_)
  rw [setP_len] at j1
  rw [pj_set h0 j0 h1]
  split
  · exact hf
  · exact ha j j0 j1

theorem askU_spec {nu de : Int} {p : Proj} (hd : 1 ≤ de) (hf : fits nu de p) : p.used ≤ askU nu de p ∧ askU nu de p * de ≤ nu * p.share ∧ (p.waiting = 0 → nu * p.share < (askU nu de p + 1) * de) ∧ (p.waiting ≠ 0 → askU nu de p = p.used) := by
  obtain ⟨⟨_, p1, p2, p3, p4, p5, p6⟩, f1, f2⟩ := hf
  have q1 : nu * p.share / de * de ≤ nu * p.share := Int.ediv_mul_le _ (by omega)
  have q2 : nu * p.share < (nu * p.share / de + 1) * de := Int.lt_ediv_add_one_mul_self _ (by omega)
  unfold askU
  by_cases hw : p.waiting = 0
  · rw [if_pos hw]
    generalize nu * p.share / de = q at *
    generalize nu * p.share = m at *
    by_cases hq : p.used < q
    · rw [if_pos hq]
      exact ⟨by omega, q1, fun _ => q2, fun h => absurd hw h⟩
    · rw [if_neg hq]
      refine ⟨by omega, f1, fun _ => ?_, fun h => absurd hw h⟩
      have : (q + 1) * de ≤ (p.used + 1) * de := Int.mul_le_mul_of_nonneg_right (by omega) (by omega)
      omega
  · rw [if_neg hw]
    exact ⟨by omega, f1, fun h => absurd h hw, fun _ => rfl⟩

theorem ask_fits {nu de k : Int} {p : Proj} (hd : 1 ≤ de) (hf : fits nu de p) (hk : 1 ≤ k) (hk2 : k ≤ 1000 - p.waiting) (hu : askU nu de p ≤ 1000000) : fits nu de (askP nu de p k) := by
  obtain ⟨a1, a2, a3, a4⟩ := askU_spec hd hf
  obtain ⟨⟨p0, p1, p2, p3, p4, p5, p6⟩, f1, f2⟩ := hf
  refine ⟨⟨p0, p1, p2, ?_, hu, ?_, ?_⟩, a2, fun _ => ?_⟩ <;> simp only [askP]
  · omega
  · omega
  · omega
  · by_cases hw : p.waiting = 0
    · have := a3 hw; omega
    · rw [a4 hw]; exact f2 (by omega)

theorem drop_fits {nu de : Int} {p : Proj} (hf : fits nu de p) : fits nu de (dropP p) := by
  obtain ⟨⟨p0, p1, p2, p3, p4, p5, p6⟩, f1, f2⟩ := hf
  exact ⟨⟨p0, p1, p2, p3, p4, by simp [dropP], by simp [dropP]⟩, f1, fun h => by simp [dropP] at h⟩

theorem askE_zero {l : List Proj} {nu de k : Int} {nm : ByteArray} (h : askE l nu de nm k = 0) : checkQ l nu de = 0 ∧ 0 ≤ findF l nm ∧ 1 ≤ k ∧ k ≤ 1000 - (pj l (findF l nm)).waiting ∧ askU nu de (pj l (findF l nm)) ≤ 1000000 := by
  unfold askE at h
  split at h
  · rename_i h0
    split at h
    · omega
    split at h
    · omega
    split at h
    · omega
    split at h
    · omega
    · exact ⟨h0, by omega, by omega, by omega, by omega⟩
  · rename_i h0; exact absurd h h0

end Go.Proofs.Ytlpnmdknlfmjaaa
