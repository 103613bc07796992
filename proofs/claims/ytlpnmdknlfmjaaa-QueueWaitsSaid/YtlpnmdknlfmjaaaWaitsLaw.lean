/-
  NO PROJECT WAITS LONGER THAN ITS BOUND, in plain Lean.
-/
import Derived.Test.YtlpnmdknlfmjaaaSharesLaw
namespace Go.Proofs.Ytlpnmdknlfmjaaa
open Go.Sim
set_option linter.unusedVariables false

def cTo (c : Int → Int) (w : Int) : Nat → Int
  | 0 => 0
  | n + 1 => cTo c w n + (if (n : Int) = w then 0 else c n)

theorem cTo_zero {c : Int → Int} (h : ∀ j, c j = 0) (w : Int) : ∀ n, cTo c w n = 0
  | 0 => rfl
  | n + 1 => by simp only [cTo]; rw [cTo_zero h w n, h]; split <;> rfl

/-- One more of a project. -/
def inc (c : Int → Int) (t : Int) (j : Int) : Int := if j = t then c j + 1 else c j

theorem cTo_inc (c : Int → Int) {w t : Int} (ht : t ≠ w) (h0 : 0 ≤ t) : ∀ n : Nat, cTo (inc c t) w n = cTo c w n + (if t < n then 1 else 0)
  | 0 => by rw [if_neg (by omega)]; rfl
  | n + 1 => by
    simp only [cTo]
    rw [cTo_inc c ht h0 n]
    unfold inc
    by_cases e : (n : Int) = t
    · rw [if_neg (by omega), if_pos e, if_neg (by omega), if_neg (by omega), if_pos (by omega)]; omega
    · rw [if_neg e]
      by_cases h : t < (n : Int)
      · rw [if_pos h, if_pos (show t < ((n + 1 : Nat) : Int) by omega)]; omega
      · rw [if_neg h, if_neg (show ¬ t < ((n + 1 : Nat) : Int) by omega)]; omega

/-- What is known on the way: c_j observations of project j were served since project w waits, or was served. -/
structure Inv (l0 l : List Proj) (nu de w : Int) (c : Int → Int) : Prop where
  ok : checkQ l nu de = 0
  len : l.length = l0.length
  sh : ∀ j : Int, 0 ≤ j → j < l.length → (pj l j).share = (pj l0 j).share
  pos : ∀ j, 0 ≤ c j
  use : (∀ j, c j = 0) ∨ (0 < (pj l w).waiting ∧ ∀ j : Int, 0 ≤ j → j < l.length → j ≠ w → 0 < c j → (pj l w).used * (pj l j).share ≤ ((pj l j).used - c j + 1) * (pj l w).share)

theorem Inv.start {l : List Proj} {nu de : Int} (w : Int) (h : checkQ l nu de = 0) : Inv l l nu de w (fun _ => 0) :=
  ⟨h, rfl, fun _ _ _ => rfl, fun _ => by simp, .inl fun _ => rfl⟩

theorem bd_same {l l0 : List Proj} (hl : l.length = l0.length) (hs : ∀ j : Int, 0 ≤ j → j < l.length → (pj l j).share = (pj l0 j).share) {w : Int} (h0 : 0 ≤ w) (h1 : w < l.length) : ∀ n : Nat, n ≤ l.length → bdTo l w n = bdTo l0 w n
  | 0, _ => rfl
  | n + 1, hn => by
    simp only [bdTo]
    rw [bd_same hl hs h0 h1 n (by omega)]
    unfold bdAt
    rw [hs n (by omega) (by omega), hs w h0 h1]

/-- The bound holds. -/
theorem Inv.bound {l0 l : List Proj} {nu de w : Int} {c : Int → Int} (h : Inv l0 l nu de w c) (h0 : 0 ≤ w) (h1 : w < l.length) : cTo c w l.length ≤ bdTo l0 w l0.length := by
  obtain ⟨_, _, _, hd, _, hfit⟩ := checkQ_zero h.ok
  have hb := checkQ_bounds h.ok
  rw [← h.len, ← bd_same h.len h.sh h0 h1 l.length (Nat.le_refl _)]
  have key : ∀ n : Nat, n ≤ l.length → cTo c w n ≤ bdTo l w n := by
    intro n
    induction n with
    | zero => intro _; exact Int.le_refl _
    | succ n ih =>
      intro hn
      have := ih (by omega)
      simp only [cTo, bdTo]
      unfold bdAt
      by_cases e : (n : Int) = w
      · rw [if_pos e, if_pos e]; omega
      · rw [if_neg e, if_neg e]
        have bw := (hb _ (pj_mem l h0 h1)).1
        have bn := (hb _ (pj_mem l (i := (n : Int)) (by omega) (by omega))).1
        have hq : 0 ≤ (pj l (n : Int)).share / (pj l w).share := Int.ediv_nonneg (by omega) (by omega)
        by_cases hc : c n = 0
        · omega
        · have hp := h.pos n
          rcases h.use with hz | ⟨hw, hu⟩
          · exact absurd (hz n) hc
          · have h2 := hu n (by omega) (by omega) e (by omega)
            have h3 := two_fit (by omega) (hfit n (by omega) (by omega)) (hfit w h0 h1) hw
            have h4 : (c n - 1) * (pj l w).share ≤ (pj l (n : Int)).share := by
              have e1 : ((pj l (n : Int)).used - c n + 1) * (pj l w).share = (pj l (n : Int)).used * (pj l w).share - (c n - 1) * (pj l w).share := by
                rw [← Int.sub_mul]; congr 1; omega
              have e2 : ((pj l w).used + 1) * (pj l (n : Int)).share = (pj l w).used * (pj l (n : Int)).share + (pj l (n : Int)).share := by rw [Int.add_mul]; omega
              rw [e1] at h2
              rw [e2] at h3
              omega
            have h5 : c n - 1 ≤ (pj l (n : Int)).share / (pj l w).share := Int.le_ediv_of_mul_le (by omega) h4
            omega
  exact key l.length (Nat.le_refl _)

/-- A step: what is done with a queue, and who was served (-1: nobody). -/
inductive Step (l : List Proj) (nu de w : Int) : List Proj → Int → Int → Int → Prop
  | serve (h : serveE l = 0) : Step l nu de w (serveL l) (newNu l) (newDe l) (turnF l)
  | drop (k : Int) (h0 : 0 ≤ k) (h1 : k < l.length) (hk : k ≠ w) : Step l nu de w (setP l k (dropP (pj l k))) nu de (-1)
  | ask (k m : Int) (h0 : 0 ≤ k) (h1 : k < l.length) (hm : 1 ≤ m) (hm2 : m ≤ 1000 - (pj l k).waiting) (hu : askU nu de (pj l k) ≤ 1000000) : Step l nu de w (setP l k (askP nu de (pj l k) m)) nu de (-1)

theorem Step.valid {l l' : List Proj} {nu de w nu' de' s : Int} (h : Step l nu de w l' nu' de' s) (hz : checkQ l nu de = 0) : checkQ l' nu' de' = 0 ∧ l'.length = l.length ∧ ∀ j : Int, 0 ≤ j → j < l.length → (pj l' j).share = (pj l j).share := by
  obtain ⟨_, _, _, hd, _, hfit⟩ := checkQ_zero hz
  have hset : ∀ (k : Int) (p : Proj), 0 ≤ k → k < l.length → p.share = (pj l k).share → ∀ j : Int, 0 ≤ j → j < l.length → (pj (setP l k p) j).share = (pj l j).share := fun k p k0 k1 hp j j0 j1 => by
    rw [pj_set k0 j0 k1]
    split
    · rename_i e; rw [hp, e]
    · rfl
  cases h with
  | serve h =>
    obtain ⟨t0, _⟩ := serveE_zero h
    exact ⟨serve_valid hz h, serveL_len l, hset _ _ t0 (turnF_range l).2 rfl⟩
  | drop k h0 h1 hk => exact ⟨set_valid hz h0 h1 rfl (drop_fits (hfit k h0 h1)), setP_len _ _ _, hset _ _ h0 h1 rfl⟩
  | ask k m h0 h1 hm hm2 hu => exact ⟨set_valid hz h0 h1 rfl (ask_fits hd.1 (hfit k h0 h1) hm hm2 hu), setP_len _ _ _, hset _ _ h0 h1 rfl⟩

/-- What is counted behind a step. -/
noncomputable def nextC (l : List Proj) (w s : Int) (c : Int → Int) : Int → Int :=
  if (pj l w).waiting = 0 ∨ s = w then (fun _ => 0) else if 0 ≤ s then inc c s else c

theorem Inv.step {l0 l l' : List Proj} {nu de w nu' de' s : Int} {c : Int → Int} (hi : Inv l0 l nu de w c) (h0 : 0 ≤ w) (h1 : w < l.length) (h : Step l nu de w l' nu' de' s) : Inv l0 l' nu' de' w (nextC l w s c) := by
  obtain ⟨v1, v2, v3⟩ := h.valid hi.ok
  obtain ⟨_, _, _, hd, _, hfit⟩ := checkQ_zero hi.ok
  have hb := checkQ_bounds hi.ok
  refine ⟨v1, v2.trans hi.len, fun j j0 j1 => (v3 j j0 (by omega)).trans (hi.sh j j0 (by omega)), fun j => ?_, ?_⟩
  · unfold nextC
    split
    · exact Int.le_refl _
    split
    · unfold inc; have := hi.pos j; split <;> omega
    · exact hi.pos j
  unfold nextC
  by_cases hr : (pj l w).waiting = 0 ∨ s = w
  · rw [if_pos hr]; exact .inl fun _ => rfl
  rw [if_neg hr]
  have hw0 : 0 < (pj l w).waiting := by
    have := (hb _ (pj_mem l h0 h1)).2.2.2.2.1
    rcases Int.lt_or_eq_of_le this with h | h
    · exact h
    · exact absurd (.inl h.symm) hr
  have hsw : s ≠ w := fun h => hr (.inr h)
  cases h with
  | serve h =>
    obtain ⟨t0, tu⟩ := serveE_zero h
    have t1 := (turnF_range l).2
    obtain ⟨tw, _⟩ := turn_spec hb t0
    rw [if_pos t0]
    right
    have pw : pj (serveL l) w = pj l w := by unfold serveL; rw [pj_set t0 h0 t1, if_neg (fun e => hsw e.symm)]
    rw [pw]
    refine ⟨hw0, fun j j0 j1 jw hc => ?_⟩
    rw [serveL_len] at j1
    unfold serveL
    rw [pj_set t0 j0 t1]
    unfold inc at hc ⊢
    by_cases e : j = turnF l
    · rw [if_pos e] at hc ⊢
      rw [if_pos e]
      simp only [served]
      have hp := hi.pos j
      by_cases hz : c j = 0
      · rw [hz, show (pj l (turnF l)).used + 1 - (0 + 1) + 1 = (pj l (turnF l)).used + 1 by omega]
        exact two_fit (by omega) (hfit w h0 h1) (hfit _ t0 t1) tw
      · rcases hi.use with hu | ⟨_, hu⟩
        · exact absurd (hu j) hz
        · have := hu j j0 j1 jw (by omega)
          rw [show (pj l (turnF l)).used + 1 - (c j + 1) + 1 = (pj l (turnF l)).used - c j + 1 by omega]
          rw [e] at this ⊢
          exact this
    · rw [if_neg e] at hc ⊢
      rw [if_neg e]
      rcases hi.use with hu | ⟨_, hu⟩
      · rw [hu j] at hc; omega
      · exact hu j j0 j1 jw hc
  | drop k k0 k1 hk =>
    rw [if_neg (by omega)]
    rcases hi.use with hu | ⟨_, hu⟩
    · exact .inl hu
    right
    have pw : pj (setP l k (dropP (pj l k))) w = pj l w := by rw [pj_set k0 h0 k1, if_neg (fun e => hk e.symm)]
    rw [pw]
    refine ⟨hw0, fun j j0 j1 jw hc => ?_⟩
    rw [setP_len] at j1
    have := hu j j0 j1 jw hc
    rw [pj_set k0 j0 k1]
    by_cases e : j = k
    · rw [if_pos e]; rw [e] at this ⊢; exact this
    · rw [if_neg e]; exact this
  | ask k m k0 k1 hm hm2 hu' =>
    rw [if_neg (by omega)]
    rcases hi.use with hu | ⟨_, hu⟩
    · exact .inl hu
    right
    obtain ⟨a1, a2, a3, a4⟩ := askU_spec hd.1 (hfit k k0 k1)
    by_cases ek : k = w
    · subst ek
      have pw : pj (setP l k (askP nu de (pj l k) m)) k = askP nu de (pj l k) m := pj_self k0 k1
      rw [pw]
      refine ⟨by simp only [askP]; omega, fun j j0 j1 jw hc => ?_⟩
      rw [setP_len] at j1
      rw [pj_set k0 j0 k1, if_neg jw]
      simp only [askP]
      rw [a4 (by omega)]
      exact hu j j0 j1 jw hc
    · have pw : pj (setP l k (askP nu de (pj l k) m)) w = pj l w := by rw [pj_set k0 h0 k1, if_neg (fun e => ek e.symm)]
      rw [pw]
      refine ⟨hw0, fun j j0 j1 jw hc => ?_⟩
      rw [setP_len] at j1
      have h2 := hu j j0 j1 jw hc
      rw [pj_set k0 j0 k1]
      by_cases e : j = k
      · rw [if_pos e]
        simp only [askP]
        rw [e] at h2 ⊢
        have bw := (hb _ (pj_mem l h0 h1)).1
        have h3 : ((pj l k).used - c k + 1) * (pj l w).share ≤ (askU nu de (pj l k) - c k + 1) * (pj l w).share := Int.mul_le_mul_of_nonneg_right (by omega) (by omega)
        omega
      · rw [if_neg e]; exact h2

/-- The count behind a step. -/
theorem count_step {l : List Proj} {w s : Int} (c : Int → Int) (hs : s < l.length) : cTo (nextC l w s c) w l.length = if (pj l w).waiting = 0 ∨ s = w then 0 else if 0 ≤ s then cTo c w l.length + 1 else cTo c w l.length := by
  unfold nextC
  by_cases hr : (pj l w).waiting = 0 ∨ s = w
  · rw [if_pos hr, if_pos hr, cTo_zero (fun _ => rfl)]
  · rw [if_neg hr, if_neg hr]
    by_cases h0 : 0 ≤ s
    · rw [if_pos h0, if_pos h0, cTo_inc c (fun e => hr (.inr e)) h0, if_pos hs]
    · rw [if_neg h0, if_neg h0]

end Go.Proofs.Ytlpnmdknlfmjaaa
