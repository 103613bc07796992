/-
  OriginNeeded: the plain law.
-/
import Derived.Test.YtopppccddnplkaaORemadeP
namespace Go.Proofs.Ytopppccddnplkaa
open Go.Sim
open Classical
set_option linter.unusedVariables false
set_option maxRecDepth 100000

theorem Due.trans {l : List Rec} {i m : Int} (h : Due l noHad i m) {k : Int} (h' : Due l noHad m k) : Due l noHad i k := by
  induction h' with
  | base _ => exact h
  | step _ k0 k1 d n ih => exact .step ih k0 k1 d n
/-- What a product needs is what it is made of, and what that needs. -/
theorem need_iff {l : List Rec} (hp : Prov l) {i : Int} (i0 : 0 ≤ i) (i1 : i < l.length) (k : Int) : (Due l noHad i k ∧ k ≠ i) ↔ ∃ f ∈ (rat l i).frm, idxOf l f = k ∨ (Due l noHad (idxOf l f) k ∧ k ≠ idxOf l f) := by
  constructor
  · rintro ⟨h, hne⟩
    induction h with
    | base _ => exact absurd rfl hne
    | @step m k hm k0 k1 d n ih =>
      by_cases e : m = i
      · subst e
        obtain ⟨f, hf, q⟩ := d
        exact ⟨f, hf, .inl q⟩
      · obtain ⟨f, hf, q⟩ := ih e
        by_cases ek : idxOf l f = k
        · exact ⟨f, hf, .inl ek⟩
        · refine ⟨f, hf, .inr ⟨?_, fun w => ek w.symm⟩⟩
          rcases q with q | ⟨q, _⟩
          · rw [← q] at k0 k1 d
            exact .step (.base (fun w => w)) k0 k1 d n
          · exact .step q k0 k1 d n
  · rintro ⟨f, hf, q⟩
    have hd := hp.down i i0 i1 f hf
    have h1 : Due l noHad i (idxOf l f) := .step (.base (fun w => w)) i0 i1 ⟨f, hf, rfl⟩ (fun w => w)
    rcases q with q | ⟨q, q2⟩
    · rw [← q]; exact ⟨h1, by omega⟩
    · have hr := q.range hp hd.1 (by omega)
      exact ⟨h1.trans q, by omega⟩

noncomputable def rawN (l : List Rec) (n : Nat) : List Str := outN l (fun j => (rat l j).how = 1) n
theorem raw_known {l : List Rec} (hp : Prov l) : ∀ s ∈ rawN l l.length, 0 ≤ idxOf l s := by
  intro s hs
  unfold rawN at hs
  rw [outN_mem] at hs
  obtain ⟨j, j0, j1, _, rfl⟩ := hs
  rw [hp.self j j0 j1]; exact j0
theorem raw_had {l : List Rec} (hp : Prov l) {j : Int} (j0 : 0 ≤ j) (j1 : j < l.length) (h : (rat l j).how = 1) : hadI l (rawN l l.length) j := by
  refine ⟨(rat l j).name, ?_, hp.self j j0 j1⟩
  unfold rawN
  rw [outN_mem]
  exact ⟨j, j0, j1, h, rfl⟩
theorem raw_lost {l : List Rec} (hp : Prov l) {i : Int} (i0 : 0 ≤ i) (i1 : i < l.length) : ¬ lostP l (rawN l l.length) i := by
  rintro ⟨j, j0, j1, d, h⟩
  exact (d.range hp i0 i1).2.2 (raw_had hp j0 j1 h)
theorem Due.mono {l : List Rec} {had : Int → Prop} {i j : Int} (h : Due l had i j) : Due l noHad i j := by
  induction h with
  | base _ => exact .base (fun w => w)
  | step _ k0 k1 d _ ih => exact .step ih k0 k1 d (fun w => w)
theorem outN_le {l : List Rec} {p q : Int → Prop} {i : Int} (h : ∀ j, p j → q j ∨ j = i) : ∀ n : Nat, (outN l p n).length ≤ (outN l q n).length + (if i < n ∧ 0 ≤ i then 1 else 0)
  | 0 => by simp [outN]
  | n + 1 => by
    have ih := outN_le (l := l) h n
    have s1 : outN l p (n + 1) = if p n then outN l p n ++ [(rat l n).name] else outN l p n := rfl
    have s2 : outN l q (n + 1) = if q n then outN l q n ++ [(rat l n).name] else outN l q n := rfl
    rw [s1, s2]
    by_cases c1 : p n
    · rw [if_pos c1]
      rcases h n c1 with c2 | c2
      · rw [if_pos c2]
        simp only [List.length_append, List.length_singleton]
        split at ih <;> split <;> omega
      · have : (if i < (n : Int) ∧ 0 ≤ i then 1 else 0) = 0 := if_neg (by omega)
        rw [this] at ih
        have h2 : (if i < ((n + 1 : Nat) : Int) ∧ 0 ≤ i then 1 else 0) = 1 := if_pos (by omega)
        rw [h2]
        split <;> simp <;> omega
    · rw [if_neg c1]
      have : (outN l q n).length ≤ (if q n then outN l q n ++ [(rat l n).name] else outN l q n).length := by split <;> simp
      have hif : (if i < (n : Int) ∧ 0 ≤ i then 1 else 0) ≤ (if i < ((n + 1 : Nat) : Int) ∧ 0 ≤ i then 1 else 0) := by split <;> split <;> omega
      omega

end Go.Proofs.Ytopppccddnplkaa
