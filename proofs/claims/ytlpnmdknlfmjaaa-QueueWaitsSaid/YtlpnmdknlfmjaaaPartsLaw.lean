/-
  SERVING IN PARTS, in plain Lean.
-/
import Derived.Test.YtlpnmdknlfmjaaaLevelLaw
namespace Go.Proofs.Ytlpnmdknlfmjaaa
open Go.Sim
set_option linter.unusedVariables false

theorem itL_add (l : List Proj) (a : Nat) : ∀ b, itL (itL l a) b = itL l (a + b)
  | 0 => rfl
  | b + 1 => by rw [itL, itL_add l a b]; rfl
theorem itNu_add (l : List Proj) (nu : Int) (a : Nat) : ∀ b, itNu (itL l a) (itNu l nu a) b = itNu l nu (a + b)
  | 0 => rfl
  | b + 1 => by rw [itNu, itL_add l a b]; rfl
theorem itDe_add (l : List Proj) (de : Int) (a : Nat) : ∀ b, itDe (itL l a) (itDe l de a) b = itDe l de (a + b)
  | 0 => rfl
  | b + 1 => by rw [itDe, itL_add l a b]; rfl
theorem itS_add (l : List Proj) (a : Nat) : ∀ b, itS l (a + b) = itS l a ++ itS (itL l a) b
  | 0 => by simp [itS]
  | b + 1 => by
    show itS l (a + b) ++ [turnF (itL l (a + b))] = itS l a ++ (itS (itL l a) b ++ [turnF (itL (itL l a) b)])
    rw [itS_add l a b, itL_add, List.append_assoc]

theorem itS_at (l : List Proj) : ∀ (k : Nat) {j : Int}, 0 ≤ j → j < k → at' (itS l k) j = turnF (itL l j.toNat)
  | 0, j, h0, h1 => by omega
  | k + 1, j, h0, h1 => by
    have hl := itS_len l k
    unfold at'
    simp only [itS]
    by_cases e : j < k
    · have := itS_at l k h0 e
      unfold at' at this
      rw [List.getD_eq_getElem?_getD, List.getElem?_append_left (by omega), ← List.getD_eq_getElem?_getD]
      exact this
    · have ej : j.toNat = k := by omega
      rw [List.getD_eq_getElem?_getD, List.getElem?_append_right (by omega), hl, ej]
      simp

theorem Stops.join {l : List Proj} {n m : Int} {k1 k2 : Nat} {f : Int} (h1 : Stops l n k1 0) (h2 : Stops (itL l k1) m k2 f) : Stops l (n + m) (k1 + k2) f := by
  obtain ⟨a1, a2, a3⟩ := h1
  obtain ⟨b1, b2, b3⟩ := h2
  rw [itL_add] at b3
  have hall : ∀ j, j < k1 + k2 → serveE (itL l j) = 0 := fun j hj => by
    by_cases h : j < k1
    · exact a1 j h
    · have := b1 (j - k1) (by omega)
      rw [itL_add, show k1 + (j - k1) = j by omega] at this
      exact this
  refine ⟨hall, by omega, ?_⟩
  rcases b3 with ⟨c1, c2⟩ | ⟨c1, c2, c3⟩
  · refine .inl ⟨c1, ?_⟩
    rcases c2 with c2 | c2
    · rcases a3 with ⟨_, a3 | a3⟩ | ⟨a3, _⟩
      · exact .inl (by omega)
      · right
        by_cases hk : k2 = 0
        · subst hk; exact a3
        · have := b1 0 (by omega)
          simp only [itL] at this
          omega
      · omega
    · exact .inr c2
  · exact .inr ⟨c1, by omega, c3⟩

def sumTo (l : List Proj) : Nat → Int
  | 0 => 0
  | n + 1 => sumTo l n + (pj l n).waiting

theorem sumTo_succ (l : List Proj) {i : Int} (h : 0 ≤ i) : sumTo l (i + 1).toNat = sumTo l i.toNat + (pj l i).waiting := by
  rw [show (i + 1).toNat = i.toNat + 1 by omega]
  show sumTo l i.toNat + (pj l (i.toNat : Nat)).waiting = _
  rw [show ((i.toNat : Nat) : Int) = i by omega]

theorem sumTo_set {l : List Proj} {i : Int} {p : Proj} (h0 : 0 ≤ i) (h1 : i < l.length) : ∀ n : Nat, sumTo (setP l i p) n = sumTo l n + (if i < n then p.waiting - (pj l i).waiting else 0)
  | 0 => by rw [if_neg (by omega)]; rfl
  | n + 1 => by
    simp only [sumTo]
    rw [sumTo_set h0 h1 n, pj_set h0 (by omega) h1]
    by_cases e : (n : Int) = i
    · rw [if_pos e, if_neg (by omega), if_pos (by omega), e]; omega
    · rw [if_neg e]
      by_cases h : i < (n : Int)
      · rw [if_pos h, if_pos (by omega)]; omega
      · rw [if_neg h, if_neg (by omega)]; omega

theorem sumTo_bounds {l : List Proj} (hb : bounds l) : ∀ n : Nat, n ≤ l.length → 0 ≤ sumTo l n ∧ sumTo l n ≤ n * 1000
  | 0, _ => by simp [sumTo]
  | n + 1, hn => by
    have ih := sumTo_bounds hb n (by omega)
    have bn := hb _ (pj_mem l (i := (n : Int)) (by omega) (by omega))
    obtain ⟨_, _, _, _, b1, b2⟩ := bn
    simp only [sumTo]
    omega

theorem sumTo_ge {l : List Proj} (hb : bounds l) {i : Int} (h0 : 0 ≤ i) : ∀ n : Nat, n ≤ l.length → i < n → (pj l i).waiting ≤ sumTo l n
  | 0, _, h => by omega
  | n + 1, hn, h => by
    have bn := hb _ (pj_mem l (i := (n : Int)) (by omega) (by omega))
    obtain ⟨_, _, _, _, b1, b2⟩ := bn
    simp only [sumTo]
    by_cases e : i = n
    · have := (sumTo_bounds hb n (by omega)).1
      rw [e]; omega
    · have := sumTo_ge hb h0 n (by omega) (by omega)
      omega

theorem sumTo_none {l : List Proj} (h : ∀ j : Int, 0 ≤ j → j < l.length → (pj l j).waiting ≤ 0) : ∀ n : Nat, n ≤ l.length → sumTo l n ≤ 0
  | 0, _ => by simp [sumTo]
  | n + 1, hn => by
    have := sumTo_none h n (by omega)
    have := h n (by omega) (by omega)
    simp only [sumTo]
    omega

def all' (l : List Proj) : Int := sumTo l l.length

theorem all_serve {l : List Proj} (he : serveE l = 0) : all' (serveL l) = all' l - 1 := by
  obtain ⟨t0, _⟩ := serveE_zero he
  have t1 := (turnF_range l).2
  unfold all'
  rw [serveL_len]
  unfold serveL
  rw [sumTo_set t0 t1, if_pos t1]
  simp only [served]
  omega

theorem all_it {l : List Proj} : ∀ k, (∀ j, j < k → serveE (itL l j) = 0) → all' (itL l k) = all' l - k
  | 0, _ => by simp [itL]
  | k + 1, h => by
    rw [itL, all_serve (h k (by omega)), all_it k (fun j hj => h j (by omega))]
    omega

/-- As many are served as wait, or as are asked for. -/
theorem served_min {l : List Proj} {nu de n : Int} {k : Nat} (hz : checkQ l nu de = 0) (h : Stops l n k 0) : (k : Int) = if all' l < n then all' l else n := by
  obtain ⟨h1, h2, h3⟩ := h
  have hb := checkQ_bounds (it_valid hz k h1)
  have hk := all_it k h1
  have h0 : 0 ≤ all' (itL l k) := by unfold all'; exact (sumTo_bounds hb _ (Nat.le_refl _)).1
  rcases h3 with ⟨_, h3 | h3⟩ | ⟨h3, _⟩
  · by_cases hc : all' l < n
    · omega
    · rw [if_neg hc]; exact h3
  · have hn := sumTo_none (turn_none hb (serveE_six.1 h3)) _ (Nat.le_refl _)
    have hz0 : all' (itL l k) ≤ 0 := hn
    by_cases hc : all' l < n
    · rw [if_pos hc]; omega
    · rw [if_neg hc]; omega
  · omega

theorem ServeIs.cases {l : List Proj} {nu de m e u s : Int} {L : List Int} {l' : List Proj} (h : ServeIs l nu de m e L l' u s) (hz : checkQ l nu de = 0) (hm : 0 ≤ m ∧ m ≤ 1000) :
    (e = 16 ∧ ∃ k, Stops l m k 16) ∨ (e = 0 ∧ ∃ k, Stops l m k 0 ∧ L = itS l k ∧ l' = itL l k ∧ u = itNu l nu k ∧ s = itDe l de k) := by
  rcases h with ⟨a1, a2, _⟩ | ⟨a1, a2, a3, k, a4⟩
  · rcases a2 with a2 | ⟨_, a7, _⟩ | ⟨_, _, a8, k, a9⟩
    · omega
    · exact absurd hm a7
    · exact .inl ⟨a8, k, a9⟩
  · exact .inr ⟨a1, k, a4⟩

end Go.Proofs.Ytlpnmdknlfmjaaa
