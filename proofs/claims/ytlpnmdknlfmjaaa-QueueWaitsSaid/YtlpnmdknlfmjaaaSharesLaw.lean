/-
  WHAT TWO PROJECTS HAD, in plain Lean.
-/
import Derived.Test.YtlpnmdknlfmjaaaPartsLaw
namespace Go.Proofs.Ytlpnmdknlfmjaaa
open Go.Sim
set_option linter.unusedVariables false

def cnt (i : Int) (L : List Int) : Int := (L.countP (fun x => decide (x = i)) : Nat)

theorem cnt_snoc (i : Int) (L : List Int) (x : Int) : cnt i (L ++ [x]) = cnt i L + (if x = i then 1 else 0) := by
  unfold cnt
  rw [List.countP_append]
  by_cases h : x = i
  · rw [if_pos h]; simp [h]
  · rw [if_neg h]; simp [h]
theorem cnt_le (i : Int) (L : List Int) : 0 ≤ cnt i L ∧ cnt i L ≤ L.length := by
  unfold cnt
  have := List.countP_le_length (p := fun x => decide (x = i)) (l := L)
  omega
theorem cnt_take (i : Int) (L : List Int) {j : Int} (h0 : 0 ≤ j) (h1 : j < L.length) : cnt i (L.take (j + 1).toNat) = cnt i (L.take j.toNat) + (if at' L j = i then 1 else 0) := by
  rw [take_succ' L h0 h1, cnt_snoc]

theorem it_at {l : List Proj} {i : Int} (h0 : 0 ≤ i) (h1 : i < l.length) : ∀ k : Nat, (∀ j, j < k → serveE (itL l j) = 0) → pj (itL l k) i = ⟨(pj l i).name, (pj l i).share, (pj l i).used + cnt i (itS l k), (pj l i).waiting - cnt i (itS l k)⟩
  | 0, _ => by
    show pj l i = _
    have : cnt i (itS l 0) = 0 := rfl
    rw [this]
    generalize pj l i = p
    obtain ⟨a, b, c, d⟩ := p
    simp
  | k + 1, h => by
    have ih := it_at h0 h1 k (fun j hj => h j (by omega))
    obtain ⟨t0, _⟩ := serveE_zero (h k (by omega))
    have t1 := (turnF_range (itL l k)).2
    have hl := itL_len l k
    show pj (serveL (itL l k)) i = _
    unfold serveL
    rw [pj_set t0 h0 t1]
    simp only [itS]
    rw [cnt_snoc]
    by_cases e : i = turnF (itL l k)
    · rw [if_pos e, if_pos e.symm, ← e, ih]
      simp only [served, Proj.mk.injEq, true_and]
      omega
    · rw [if_neg e, if_neg (fun h => e h.symm), ih]
      simp

/-- The shares of two projects that wait, at a level that fits them. -/
theorem two_fit {nu de : Int} {p q : Proj} (hd : 0 < de) (hp : fits nu de p) (hq : fits nu de q) (hw : 0 < q.waiting) : p.used * q.share ≤ (q.used + 1) * p.share := by
  obtain ⟨⟨_, p1, _⟩, f1, _⟩ := hp
  obtain ⟨⟨_, q1, _⟩, _, g2⟩ := hq
  exact frac_trans (d := de) hd (by omega) (by omega) f1 (g2 hw)

theorem two_shares {a b u v x y : Int} (s1 : v * x ≤ (u + 1) * y) (s2 : u * y ≤ (v + 1) * x) (e1 : (v + b) * x ≤ (u + a + 1) * y) (e2 : (u + a) * y ≤ (v + b + 1) * x) : a * y - b * x ≤ x + y ∧ b * x - a * y ≤ x + y := by
  rw [Int.add_mul] at s1 s2
  rw [Int.add_mul, Int.add_mul, Int.add_mul] at e1 e2
  generalize v * x = A at *
  generalize u * y = B at *
  generalize a * y = C at *
  generalize b * x = D at *
  omega

end Go.Proofs.Ytlpnmdknlfmjaaa
