/-
  THE SYMBOLIC RUNS SERVE: operations, regions, code.
-/
import Derived.Test.YtlpnmdknlfmjaaaSymSound
namespace Go.Sim
set_option linter.unusedSimpArgs false
set_option linter.unusedVariables false

theorem condB {b : Bool} {A B : Prop} (h : cond b A B) : (b = true ∧ A) ∨ (b = false ∧ B) := by
  cases b with
  | true => exact .inl ⟨rfl, h⟩
  | false => exact .inr ⟨rfl, h⟩

theorem forkB {b : Bool} {x y : Unit → Prop} (h : fork b x y) : (b = true ∧ x ()) ∨ (b = false ∧ y ()) := by
  cases b with
  | true => exact .inl ⟨rfl, h⟩
  | false => exact .inr ⟨rfl, h⟩

theorem wpOp_ok {P : Unit → Program} {H0 : Hint} {F0 : Prims} {X : AHeap → AHeap} {mk : SMaker} {m : Maker} {s : SS} {t : St} {loc : Bool} {o : Op} {C : Value → SS → Prop} (hX : XOK X) (hs : Le s (withX X t)) (hm : MkOK X mk m s) (hsm : small o = true ∨ ∀ h, X h = h) (h : wpOp P (atomsOf (P ()) H0 F0) mk loc o s C) :
    ∃ v t' s', opA (P ()) m loc o t = some (v, t') ∧ Le s' (withX X t') ∧ C v s' := by
  have E1 : ∀ {x : Operand} {v : Value}, ev s x = some v → evalA t x = some v := fun hx => by
    have := hs.ev hx
    rename_i x v
    cases x <;> exact this
  have E2 : ∀ {x : List Operand} {v : List Value}, evs s x = some v → evalsA t x = some v := by
    intro x
    induction x with
    | nil => intro v hx; exact hx
    | cons x r ih =>
      intro v hx
      simp only [evs] at hx
      split at hx
      · rename_i u hu
        split at hx
        · rename_i l hl
          simp only [evalsA, E1 hu, ih hl]; exact hx
        · cases hx
      · cases hx
  have E3 : ∀ {x : Option Operand} {v : Option Value}, evOpt s x = some v → evalOpt t x = some v := by
    intro x v hx
    cases x with
    | none => exact hx
    | some x =>
      simp only [evOpt] at hx
      split at hx
      · rename_i u hu
        simp only [evalOpt, E1 hu]; exact hx
      · cases hx
  have E4 : ∀ {x : List (Nat × Operand)} {v : List (Nat × Value)}, evParts s x = some v → evalParts t x = some v := by
    intro x
    induction x with
    | nil => intro v hx; exact hx
    | cons x r ih =>
      obtain ⟨i, x⟩ := x
      intro v hx
      simp only [evParts] at hx
      split at hx
      · rename_i u hu
        split at hx
        · rename_i l hl
          simp only [evalParts, E1 hu, ih hl]; exact hx
        · cases hx
      · cases hx
  unfold wpOp at h
  split at h
  · split at h
    · rename_i v hv; exact ⟨v, t, s, by simp only [opA, E1 hv], hs, h⟩
    · exact h.elim
  · split at h
    · rename_i v hv; exact ⟨v, t, s, by simp only [opA, E1 hv], hs, h⟩
    · exact h.elim
  · split at h
    · rename_i b hb
      rcases forkB h with ⟨rfl, h1⟩ | ⟨rfl, h1⟩
      · clear h
        split at h1
        · rename_i v hv; exact ⟨v, t, s, by simp only [opA, E1 hb, E1 hv], hs, h1⟩
        · exact h1.elim
      · clear h
        split at h1
        · rename_i v hv; exact ⟨v, t, s, by simp only [opA, E1 hb, E1 hv], hs, h1⟩
        · exact h1.elim
    · exact h.elim
  · split at h
    · rename_i z n hz hn
      obtain ⟨hok, h⟩ := condP h
      obtain ⟨v, t', s', hv, hl, hC⟩ := hm _ _ _ _ hok h
      exact ⟨v, t', s', by simp only [opA, hz, hn, hv], hl, hC⟩
    · exact h.elim
  · split at h
    · rename_i z n hz hn
      obtain ⟨hok, h⟩ := condP h
      obtain ⟨v, t', s', hv, hl, hC⟩ := hm _ _ _ _ hok h
      exact ⟨v, t', s', by simp only [opA, E1 hz, hn, hv], hl, hC⟩
    · exact h.elim
  · split at h
    · rename_i l hl
      split at h
      · rename_i v hv; exact ⟨v, t, s, by simp only [opA, E4 hl, hv], hs, h⟩
      · exact h.elim
    · exact h.elim
  · split at h
    · rename_i l hl
      obtain ⟨v, t', s', hv, hle, hC⟩ := wpBuildSlice_ok hm h
      exact ⟨v, t', s', by simp only [opA, E4 hl, hv], hle, hC⟩
    · exact h.elim
  · split at h
    · rename_i a ha
      obtain ⟨v, hv, hC⟩ := wpLoad_ok hX hs h
      exact ⟨v, t, s, by simp only [opA, E1 ha, hv], hs, hC⟩
    · exact h.elim
  · split at h
    · rename_i a v ha hv
      obtain ⟨t', s', hst, hl, hC⟩ := wpStore_ok hX hs h
      exact ⟨_, t', s', by simp only [opA, E1 ha, E1 hv, hst], hl, hC⟩
    · exact h.elim
  · split at h
    · rename_i a ha
      exact ⟨_, t, s, by simp only [opA, E1 ha], hs, h⟩
    · rename_i f first captured ha
      exact ⟨_, t, s, by simp only [opA, E1 ha], hs, h⟩
    · exact h.elim
  · split at h
    · rename_i a b ha hb
      obtain ⟨v, hv, hC⟩ := wpBin_ok h
      exact ⟨v, t, s, by simp only [opA, E1 ha, E1 hb, hv], hs, hC⟩
    · exact h.elim
  · split at h
    · rename_i a ha
      obtain ⟨v, hv, h⟩ := wpUn_ok h
      exact ⟨v, t, s, by simp only [opA, E1 ha, hv], hs, h⟩
    · exact h.elim
  · split at h
    · rename_i a ha
      obtain ⟨v, hv, h⟩ := wpConv_ok h
      exact ⟨v, t, s, by simp only [opA, E1 ha, hv], hs, h⟩
    · exact h.elim
  · split at h
    · rename_i f l r hl hr
      obtain ⟨hb, h⟩ := condP h
      exact ⟨_, t, s, by simp only [opA, E2 hl, E2 hr, hb, cond_true], hs, h⟩
    · exact h.elim
  · split at h
    · rename_i a b ha hb
      obtain ⟨v, t', s', hv, hle, hC⟩ := wpMakeSlice_ok hm h
      exact ⟨v, t', s', by simp only [opA, E1 ha, E1 hb, hv], hle, hC⟩
    · exact h.elim
  · split at h
    · rename_i v a b c hv ha hb hc
      obtain ⟨r, hr, hC⟩ := wpSlice_ok h
      exact ⟨r, t, s, by simp only [opA, E1 hv, E3 ha, E3 hb, E3 hc, hr], hs, hC⟩
    · exact h.elim
  · split at h
    · rename_i v hv
      obtain ⟨r, hr, h⟩ := wpFieldAddr_ok h
      exact ⟨r, t, s, by simp only [opA, E1 hv, hr], hs, h⟩
    · exact h.elim
  · split at h
    · rename_i v hv
      split at h
      · rename_i r hr; exact ⟨r, t, s, by simp only [opA, E1 hv, hr], hs, h⟩
      · exact h.elim
    · exact h.elim
  · split at h
    · rename_i v j hv hj
      obtain ⟨r, hr, hC⟩ := wpIndexAddr_ok h
      exact ⟨r, t, s, by simp only [opA, E1 hv, E1 hj, hr], hs, hC⟩
    · exact h.elim
  · split at h
    · rename_i v j hv hj
      obtain ⟨r, hr, hC⟩ := wpIndex_ok h
      exact ⟨r, t, s, by simp only [opA, E1 hv, E1 hj, hr], hs, hC⟩
    · exact h.elim
  · split at h
    · rename_i vs hvs
      split at h
      · rename_i v hv; exact ⟨v, t, s, by simp only [opA, E1 hvs, hv], hs, h⟩
      · exact h.elim
    · exact h.elim
  · rename_i b args argTypes
    split at h
    · rename_i l hl
      split at h
      · split at h
        · rename_i ty hty
          obtain ⟨v, hv, h⟩ := wpLen_ok h
          exact ⟨v, t, s, by simp only [opA, E2 hl, hty, hv], hs, h⟩
        · exact h.elim
      · obtain ⟨v, hv, h⟩ := wpMax_ok h
        exact ⟨v, t, s, by simp only [opA, E2 hl, hv], hs, h⟩
      · obtain ⟨v, hv, h⟩ := wpMin_ok h
        exact ⟨v, t, s, by simp only [opA, E2 hl, hv], hs, h⟩
      · have hx : ∀ h, X h = h := by
          rcases hsm with h | h
          · simp [small, pureOp] at h
          · exact h
        obtain ⟨a, n, c, h', ha, hC⟩ := h
        have e : t.h = s.h := by rw [← hs.h]; exact (hx _).symm
        rw [← e] at ha
        exact ⟨_, { t with h := h' }, { s with h := h' }, by simp only [opA, E2 hl, ha, withHeap], ⟨hs.env, hs.K, hs.kn, hx _⟩, hC⟩
      · have hx : ∀ h, X h = h := by
          rcases hsm with h | h
          · simp [small, pureOp] at h
          · exact h
        obtain ⟨n, h', ha, hC⟩ := h
        have e : t.h = s.h := by rw [← hs.h]; exact (hx _).symm
        rw [← e] at ha
        exact ⟨_, { t with h := h' }, { s with h := h' }, by simp only [opA, E2 hl, ha, withHeap], ⟨hs.env, hs.K, hs.kn, hx _⟩, hC⟩
      · exact h.elim
    · exact h.elim
  · exact h.elim

theorem Le.put {s : SS} {t : St} (h : Le s t) {nt : Nat} {d : Option Tmp} {v : Value} {C : SS → Prop} (hp : putS nt s d v C) : ∃ t' s', putA nt t d v = some t' ∧ Le s' t' ∧ C s' ∧ t'.h = t.h := by
  unfold putS at hp
  unfold putA
  split at hp
  · exact ⟨t, s, rfl, h, hp, rfl⟩
  · rename_i d
    obtain ⟨hb, hp⟩ := condP hp
    simp only [hb, cond_true]
    refine ⟨_, { s with env := (d, v) :: s.env }, rfl, ⟨fun i u hu => ?_, h.K, h.kn, h.h⟩, hp, rfl⟩
    rw [lk_cons] at hu
    show (t.env.set d v).get i = some u
    rw [Tri.get_set]
    by_cases e : d = i
    · rw [if_pos e] at hu ⊢; exact hu
    · rw [if_neg e] at hu ⊢; exact h.env _ _ hu

theorem Le.callee {s : SS} {t : St} (h : Le s t) {c : Call} {r : FuncId × List Value} (hc : calleeS s c = some r) : calleeA t c = some r := by
  unfold calleeS at hc
  unfold calleeA
  split at hc
  · rename_i x hx
    simp only [hx]
    split at hc
    · rename_i f first captured l he hl
      simp only [h.ev he, h.evs hl]; exact hc
    · cases hc
  · cases hc

theorem Le.same {s : SS} {t : St} (h : Le s t) {d : Nat} {v : Value} (hd : lk s.env d = some v) : Le { s with env := (d, v) :: s.env } t :=
  ⟨fun i u hu => by
    rw [lk_cons] at hu
    by_cases e : d = i
    · subst e; rw [if_pos rfl] at hu; rw [← hu]; exact h.env _ _ hd
    · rw [if_neg e] at hu; exact h.env _ _ hu, h.K, h.kn, h.h⟩

/-- A guard: it runs, or it is skipped. -/
theorem wpGuard_ok {ops : Array Oper} {o : Oper} {s : SS} {t : St} {go skip : SS → Prop} (h : Le s t) (hw : wpGuard ops o s go skip) :
    (wantedA ops o t = some true ∧ ∃ s', Le s' t ∧ s'.h = s.h ∧ s'.kn = s.kn ∧ go s') ∨ (wantedA ops o t = some false ∧ ∃ s', Le s' t ∧ s'.h = s.h ∧ s'.kn = s.kn ∧ skip s') := by
  unfold wpGuard at hw
  unfold wantedA
  split at hw
  · rename_i hg
    rw [hg]
    exact .inl ⟨rfl, s, h, rfl, rfl, hw⟩
  · rename_i j want hg
    simp only [hg]
    split at hw
    · rename_i d hd
      simp only [hd]
      split at hw
      · rename_i b hb
        simp only [h.env _ _ hb]
        cases want with
        | true =>
          simp only [] at hw
          rcases forkB hw with ⟨rfl, hw2⟩ | ⟨rfl, hw2⟩
          · exact .inl ⟨by simp, _, h.same hb, rfl, rfl, hw2⟩
          · exact .inr ⟨by simp, _, h.same hb, rfl, rfl, hw2⟩
        | false =>
          simp only [] at hw
          rcases forkB hw with ⟨rfl, hw2⟩ | ⟨rfl, hw2⟩
          · exact .inr ⟨by simp, _, h.same hb, rfl, rfl, hw2⟩
          · exact .inl ⟨by simp, _, h.same hb, rfl, rfl, hw2⟩
      · rename_i vs hvs
        simp only [h.env _ _ hvs]
        obtain ⟨hb, hw⟩ := condP hw
        rw [hb]
        exact .inr ⟨rfl, s, h, rfl, rfl, hw⟩
      · exact hw.elim
    · exact hw.elim

theorem newS_ok {P0 : Program} {H0 : Hint} {F0 : Prims} (s : SS) (t : St) (hs : Le s t) : MkOK (fun h => h) (newS (atomsOf P0 H0 F0)) t.new s := by
  intro loc es cs C hok h
  unfold newS at h
  unfold St.new
  rw [hok]
  simp only [cond_true]
  cases loc with
  | true =>
    simp only [cond_true] at h ⊢
    have e : t.kn = s.kn := hs.kn
    refine ⟨_, _, { s with kn := s.kn + 1, K := (s.kn, cs) :: s.K }, rfl, ⟨hs.env, fun i v hv => ?_, by simp [withX, e], hs.h⟩, by rw [e]; exact h⟩
    rw [lk_cons] at hv
    show (t.K.set t.kn cs).get i = some v
    rw [Tri.get_set, e]
    by_cases e : s.kn = i
    · rw [if_pos e] at hv ⊢; exact hv
    · rw [if_neg e] at hv ⊢; exact hs.K _ _ hv
  | false =>
    simp only [cond_false] at h ⊢
    have e : t.h = s.h := hs.h
    exact ⟨_, _, { s with h := s.h.push es cs }, rfl, ⟨hs.env, hs.K, hs.kn, by show t.h.push es cs = _; rw [e]⟩, by rw [e]; exact h⟩

theorem newAtS_ok {P0 : Program} {H0 : Hint} {F0 : Prims} {X : AHeap → AHeap} (hX : XOK X) (id tag : Nat) (s : SS) (t : St) (hs : Le s (withX X t)) : MkOK X (newAtS (atomsOf P0 H0 F0) id tag) (t.newAt id tag) s := by
  intro loc es cs C hok h
  unfold newAtS at h
  unfold St.newAt
  rw [hok]
  simp only [cond_true]
  cases loc with
  | true =>
    simp only [cond_true] at h ⊢
    refine ⟨_, _, { s with K := (tag, cs) :: s.K }, rfl, ⟨hs.env, fun i v hv => ?_, hs.kn, hs.h⟩, h⟩
    rw [lk_cons] at hv
    show (t.K.set tag cs).get i = some v
    rw [Tri.get_set]
    by_cases e : tag = i
    · rw [if_pos e] at hv ⊢; exact hv
    · rw [if_neg e] at hv ⊢; exact hs.K _ _ hv
  | false =>
    simp only [cond_false] at h ⊢
    refine ⟨_, _, { s with h := s.h.putAt id es cs }, rfl, ⟨hs.env, hs.K, hs.kn, ?_⟩, h⟩
    have := hX.putAt t.h id es cs
    show X (t.h.putAt id es cs) = _
    rw [this]; rw [show X t.h = s.h from hs.h]

end Go.Sim
