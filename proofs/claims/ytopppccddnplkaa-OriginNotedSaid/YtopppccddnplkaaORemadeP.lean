/-
  OriginRemade: the plain law.
-/
import Derived.Test.YtopppccddnplkaaORemake
namespace Go.Proofs.Ytopppccddnplkaa
open Go.Sim
open Classical
set_option linter.unusedVariables false
set_option maxRecDepth 100000

theorem outN_mem {l : List Rec} {p : Int → Prop} : ∀ (n : Nat) (s : Str), s ∈ outN l p n ↔ ∃ j : Int, 0 ≤ j ∧ j < n ∧ p j ∧ (rat l j).name = s
  | 0, s => by
    constructor
    · intro h; simp [outN] at h
    · rintro ⟨j, j0, j1, _⟩; omega
  | n + 1, s => by
    have ih := outN_mem (l := l) (p := p) n s
    unfold outN
    by_cases c : p n
    · rw [if_pos c, List.mem_append, List.mem_singleton, ih]
      constructor
      · rintro (⟨j, j0, j1, q⟩ | q)
        · exact ⟨j, j0, by omega, q⟩
        · exact ⟨n, by omega, by omega, c, q.symm⟩
      · rintro ⟨j, j0, j1, q1, q2⟩
        by_cases e : j = n
        · subst e; exact .inr q2.symm
        · exact .inl ⟨j, j0, by omega, q1, q2⟩
    · rw [if_neg c, ih]
      constructor
      · rintro ⟨j, j0, j1, q⟩; exact ⟨j, j0, by omega, q⟩
      · rintro ⟨j, j0, j1, q1, q2⟩
        by_cases e : j = n
        · subst e; exact absurd q1 c
        · exact ⟨j, j0, by omega, q1, q2⟩
theorem outN_pos {l : List Rec} {p : Int → Prop} : ∀ (n i : Nat), i < (outN l p n).length → ∃ a : Int, 0 ≤ a ∧ a < n ∧ p a ∧ (outN l p n)[i]? = some (rat l a).name ∧ (outN l p n).take i = outN l p a.toNat
  | 0, i, h => by simp [outN] at h
  | n + 1, i, h => by
    have ih := outN_pos (l := l) (p := p) n i
    have step : outN l p (n + 1) = if p n then outN l p n ++ [(rat l n).name] else outN l p n := rfl
    by_cases c : p n
    · rw [if_pos c] at step
      rw [step] at h ⊢
      by_cases hi : i < (outN l p n).length
      · obtain ⟨a, a0, a1, a2, a3, a4⟩ := ih hi
        exact ⟨a, a0, by omega, a2, by rw [List.getElem?_append_left hi]; exact a3, by rw [List.take_append_of_le_length (by omega)]; exact a4⟩
      · have hi' : i = (outN l p n).length := by simp at h; omega
        refine ⟨n, by omega, by omega, c, ?_, ?_⟩
        · rw [hi', List.getElem?_append_right (by omega)]; simp
        · rw [hi', List.take_append_of_le_length (by omega), List.take_length]; rfl
    · rw [if_neg c] at step
      rw [step] at h ⊢
      obtain ⟨a, a0, a1, a2⟩ := ih h
      exact ⟨a, a0, by omega, a2⟩
theorem sat'_mem {r : List Str} {i : Int} (h0 : 0 ≤ i) (h1 : i < r.length) : sat' r i ∈ r := by
  unfold sat'
  rw [List.getD, List.getElem?_eq_getElem (by omega)]
  exact List.getElem_mem _
theorem sat'_of_mem {r : List Str} {s : Str} (h : s ∈ r) : ∃ i : Int, 0 ≤ i ∧ i < r.length ∧ sat' r i = s := by
  obtain ⟨j, hj⟩ := List.getElem?_of_mem h
  have hjl : j < r.length := (List.getElem?_eq_some_iff.1 hj).1
  refine ⟨j, by omega, by omega, ?_⟩
  unfold sat'
  rw [Int.toNat_natCast, List.getD, hj]
  rfl
theorem sat'_take {r : List Str} {i j : Int} (h0 : 0 ≤ i) (h1 : i < j) : sat' (r.take j.toNat) i = sat' r i := by
  unfold sat'
  rw [List.getD, List.getD, List.getElem?_take, if_pos (by omega)]

structure RMAt (l : List Rec) (hv : List Str) (name : Str) (r : List Str) (i a : Int) : Prop where
  a0 : 0 ≤ a
  a1 : a < l.length
  idx : idxOf l (sat' r i) = a
  low : ∀ s ∈ r.take i.toNat, idxOf l s < a
  nothad : sat' r i ∉ hv
  how : (rat l a).how ≠ 1
  frm : ∀ f ∈ (rat l a).frm, f ∈ hv ∨ f ∈ r.take i.toNat
  used : sat' r i = name ∨ ∃ k : Int, i < k ∧ k < r.length ∧ 0 ≤ idxOf l (sat' r k) ∧ sat' r i ∈ (rat l (idxOf l (sat' r k))).frm

theorem rm_at {l : List Rec} (hp : Prov l) {hv : List Str} {name : Str} (hn : 0 ≤ idxOf l name) (hlost : ¬ lostP l hv (idxOf l name)) {r : List Str} (hr : r = outN l (Due l (hadI l hv) (idxOf l name)) l.length) {i : Int} (i0 : 0 ≤ i) (i1 : i < r.length) : ∃ a, RMAt l hv name r i a := by
  have hi1 : idxOf l name < l.length := by rcases idx_cases l name with ⟨q, _⟩ | ⟨_, q, _⟩ <;> omega
  obtain ⟨a, a0, a1, a2, a3, a4⟩ := outN_pos (l := l) (p := Due l (hadI l hv) (idxOf l name)) l.length i.toNat (by rw [← hr]; omega)
  rw [← hr] at a3 a4
  have hnm : sat' r i = (rat l a).name := by unfold sat'; rw [List.getD, a3]; rfl
  have hidx : idxOf l (sat' r i) = a := by rw [hnm]; exact hp.self a a0 a1
  have hnh := (a2.range hp hn hi1).2.2
  have hlow : ∀ s ∈ r.take i.toNat, idxOf l s < a := by
    intro s hs
    rw [a4, outN_mem] at hs
    obtain ⟨j, j0, j1, jd, rfl⟩ := hs
    rw [hp.self j j0 (by omega)]; omega
  refine ⟨a, a0, a1, hidx, hlow, fun w => hnh ⟨_, w, hidx⟩, fun w => hlost ⟨a, a0, a1, a2, w⟩, fun f hf => ?_, ?_⟩
  · have hd := hp.down a a0 a1 f hf
    by_cases w : f ∈ hv
    · exact .inl w
    · right
      rw [a4, outN_mem]
      refine ⟨idxOf l f, hd.1, by omega, .step a2 a0 a1 ⟨f, hf, rfl⟩ (fun q => w ((had_iff hd.1).1 q)), idx_name hd.1⟩
  · cases a2 with
    | base q => left; rw [hnm]; exact idx_name hn
    | @step k _ hk k0 k1 d n =>
      right
      obtain ⟨f, hf, e⟩ := d
      have hd := hp.down k k0 k1 f hf
      have hm : (rat l k).name ∈ r := by rw [hr, outN_mem]; exact ⟨k, k0, k1, hk, rfl⟩
      obtain ⟨kk, kk0, kk1, hkk⟩ := sat'_of_mem hm
      have hik : idxOf l (sat' r kk) = k := by rw [hkk]; exact hp.self k k0 k1
      refine ⟨kk, ?_, kk1, by omega, ?_⟩
      · by_cases w : i < kk
        · exact w
        · exfalso
          by_cases w2 : kk = i
          · rw [w2] at hik; omega
          · have := hlow (sat' r kk) (by rw [← sat'_take kk0 (show kk < i by omega)]; exact sat'_mem kk0 (by rw [List.length_take]; omega))
            omega
      · rw [hik, hnm, ← e, idx_name hd.1]; exact hf

theorem rm_had {l : List Rec} (hp : Prov l) {hv : List Str} {name : Str} (hn : 0 ≤ idxOf l name) (h : name ∈ hv) : outN l (Due l (hadI l hv) (idxOf l name)) l.length = [] := by
  have hh : hadI l hv (idxOf l name) := (had_iff hn).2 h
  have none : ∀ j, ¬ Due l (hadI l hv) (idxOf l name) j := fun j d => by
    induction d with
    | base q => exact q hh
    | step _ _ _ _ _ ih => exact ih
  rw [List.eq_nil_iff_forall_not_mem]
  intro s hs
  rw [outN_mem] at hs
  obtain ⟨j, _, _, d, _⟩ := hs
  exact none j d
theorem rm_name {l : List Rec} (hp : Prov l) {hv : List Str} {name : Str} (hn : 0 ≤ idxOf l name) (h : name ∉ hv) : name ∈ outN l (Due l (hadI l hv) (idxOf l name)) l.length := by
  have hi1 : idxOf l name < l.length := by rcases idx_cases l name with ⟨q, _⟩ | ⟨_, q, _⟩ <;> omega
  rw [outN_mem]
  exact ⟨idxOf l name, hn, hi1, .base (fun q => h ((had_iff hn).1 q)), idx_name hn⟩

end Go.Proofs.Ytopppccddnplkaa
