/-
  A REGION THAT DRAWS ITS ORDER (2): what holds when a part of its operations has come up, in whatever order.
-/
import Derived.Test.YtlpnmdknlfmjaaaSimDraw
namespace Go.Sim
set_option linter.unusedSimpArgs false

/-- The abstract machine's way through the region, with what its checks say. -/
structure Tr (P : Program) (H : Hint) (call : CallT) (f : FuncId) (nt : Nat) (ops : Array Oper) (base kbase : Nat) (l : List Nat) (S : Nat → St) (V : Nat → Value) (X : Nat → FP) (W : Nat → Bool) : Prop where
  len : l.length = ops.size
  step : ∀ (i p : Nat), l[i]? = some p → ∃ o, ops[p]? = some o ∧ StepD P H call f nt ops base kbase i o (S i) (V i) (X i) (W i) (S (i + 1))
  dist : ∀ (i k p q : Nat), i < k → l[i]? = some p → l[k]? = some q → p ≠ q
  conf : ∀ (i k p q : Nat) (o o' : Oper), i < k → l[i]? = some p → l[k]? = some q → ops[p]? = some o → ops[q]? = some o' → (shares ops o o' = true ∨ clash (base + ops.size) (X i) (W i) (X k) (W k) = true) → prec (Region.before ops) p q = true
  lim : base + ops.size ≤ (S 0).h.next
  kn : (S 0).kn = kbase + ops.size
  keep : CallKeep call

def ModG (S : Nat → St) (X : Nat → FP) (W : Nat → Bool) (j id : Nat) : Prop := (X j = .block false id ∧ W j = true) ∨ X j = .new false id ∨ (X j = .all ∧ (W j = true ∨ (S j).h.next ≤ id))
def ModL (X : Nat → FP) (W : Nat → Bool) (j t : Nat) : Prop := (X j = .block true t ∧ W j = true) ∨ X j = .new true t

section
variable {P : Program} {H : Hint} {call : CallT} {f : FuncId} {nt : Nat} {ops : Array Oper} {base kbase : Nat} {l : List Nat} {S : Nat → St} {V : Nat → Value} {X : Nat → FP} {W : Nat → Bool}

theorem isCall_all {o : Oper} {c : Call} {loc : Bool} {id tag : Nat} {s : St} (h : isCall o.op = some c) : fpOf o.op loc id tag s = .all := by
  have hc := isCall_spec h
  unfold isCall at h
  rw [hc] at h ⊢
  simp only [] at h
  cases hx : c.callee with
  | value x => cases c; simp only at hx; subst hx; rfl
  | invoke _ _ => rw [hx] at h; simp at h
  | builtin _ => rw [hx] at h; simp at h

theorem fresh_fp {o : Op} {loc : Bool} {id tag : Nat} {s : St} : fpOf o loc id tag s.fresh = fpOf o loc id tag s := by
  unfold fpOf
  rw [evalA_congr (s := s) (s2 := s.fresh) rfl]

/-- What a step does, summed up. -/
structure StepSum (i : Nat) (o : Oper) (s : St) (v : Value) (x : FP) (wr : Bool) (s' : St) : Prop where
  env : ∀ t, s'.env.get t = if o.dst = some t then some v else s.env.get t
  kn : s'.kn = s.kn
  next : s.h.next ≤ s'.h.next
  nextEq : x ≠ .all → s'.h.next = s.h.next
  low : s'.h.low ≤ s.h.low

theorem StepD.sum (hk : CallKeep call) {i : Nat} {o : Oper} {s s' : St} {v : Value} {x : FP} {wr : Bool} (h : StepD P H call f nt ops base kbase i o s v x wr s') : StepSum i o s v x wr s' := by
  have henv : ∀ (s0 : St) (u : Value), putA nt s0 o.dst u = some s' → ∀ t, s'.env.get t = if o.dst = some t then some u else s0.env.get t := by
    intro s0 u hp t
    rcases putA_spec hp with ⟨h1, rfl⟩ | ⟨d, h1, _, rfl⟩
    · simp [h1]
    · simp only [h1, Tri.get_set, Option.some.injEq]
  rcases h with ⟨_, s1, h1, h2, rfl, rfl⟩ | ⟨_, h2, rfl, rfl, rfl⟩
  · by_cases hA : fpOf o.op (locOf H f o) (base + i) (kbase + i) s = .all
    · obtain ⟨e1, _, e3⟩ := oneD_all (by rw [fresh_fp]; exact hA) h1
      have k := lowered_keep (e3 hk 0 (Nat.zero_le _))
      refine ⟨fun t => ?_, ?_, ?_, fun q => absurd hA q, ?_⟩
      · rw [henv _ _ h2 t]; rw [e1]; rfl
      · rw [putA_env h2, e1]; rfl
      · rw [putA_env h2]; exact k.next
      · rw [putA_env h2]; exact k.low
    · have hc : isCall o.op = none := by
        cases hc : isCall o.op with
        | none => rfl
        | some c => exact absurd (isCall_all hc) hA
      unfold oneD at h1
      rw [hc] at h1
      obtain ⟨E, e1, e2, _⟩ := opA_eff (by rw [fresh_fp]; exact hA) h1
      have hEe : s1.env = s.env ∧ s1.kn = s.kn ∧ s1.h.next = s.h.next := by
        rw [e1]; cases E <;> exact ⟨rfl, rfl, rfl⟩
      refine ⟨fun t => ?_, ?_, ?_, fun _ => ?_, ?_⟩
      · rw [henv _ _ h2 t]; simp only [St.lowered, hEe.1]
      · rw [putA_env h2]; exact hEe.2.1
      · rw [putA_env h2]; simp only [St.lowered, hEe.2.2]; exact Nat.le_refl _
      · rw [putA_env h2]; exact hEe.2.2
      · rw [putA_env h2]; exact Nat.min_le_left _ _
  · refine ⟨fun t => henv _ _ h2 t, ?_, ?_, fun _ => ?_, ?_⟩
    · rw [putA_env h2]
    · rw [putA_env h2]; exact Nat.le_refl _
    · rw [putA_env h2]
    · rw [putA_env h2]; exact Nat.le_refl _

theorem StepD.getG (hk : CallKeep call) {i : Nat} {o : Oper} (h : StepD P H call f nt ops base kbase i o (S i) (V i) (X i) (W i) (S (i + 1))) {id : Nat} (hm : ¬ ModG S X W i id) : (S (i + 1)).h.m.get id = (S i).h.m.get id := by
  rcases h with ⟨_, s1, h1, h2, hx, hw⟩ | ⟨_, h2, _, hx, hw⟩
  · rw [putA_env h2]
    show s1.h.m.get id = _
    by_cases hA : X i = .all
    · obtain ⟨e1, _, e3⟩ := oneD_all (by rw [fresh_fp, ← hx]; exact hA) h1
      have hlt : id < (S i).h.next := by
        rcases Nat.lt_or_ge id (S i).h.next with q | q
        · exact q
        · exact absurd (.inr (.inr ⟨hA, .inr q⟩)) hm
      have hwf : W i = false := by
        cases hq : W i with
        | false => rfl
        | true => exact absurd (.inr (.inr ⟨hA, .inl hq⟩)) hm
      have hlow : (S i).h.next ≤ s1.h.low := by
        rw [hwf] at hw
        have := hw.symm
        simp only [Bool.or_eq_false_iff] at this
        rcases Nat.lt_or_ge s1.h.low (S i).h.next with q | q
        · rw [blt_true q] at this; cases this.2
        · exact q
      exact (e3 hk (S i).h.next (Nat.le_refl _)).get id hlt (by omega)
    · have hc : isCall o.op = none := by
        cases hc : isCall o.op with
        | none => rfl
        | some c => exact absurd (by rw [hx]; exact isCall_all hc) hA
      unfold oneD at h1
      rw [hc] at h1
      obtain ⟨E, e1, e2, _⟩ := opA_eff (by rw [fresh_fp, ← hx]; exact hA) h1
      rw [fresh_fp, ← hx] at e2
      rw [e1]
      cases E with
      | idle => rfl
      | setL t cs => rfl
      | setG b blk lw =>
        have hne : b ≠ id := by
          intro e; subst e
          rcases e2 with ⟨q1, q2, _⟩ | ⟨q1, _⟩
          · exact hm (.inl ⟨q1, by rw [hw, q2]; rfl⟩)
          · exact hm (.inr (.inl q1))
        show ((S i).fresh.h.m.set b blk).get id = _
        rw [Tri.get_set_ne _ _ hne]; rfl
  · rw [putA_env h2]

theorem StepD.getL {i : Nat} {o : Oper} (h : StepD P H call f nt ops base kbase i o (S i) (V i) (X i) (W i) (S (i + 1))) {t : Nat} (hm : ¬ ModL X W i t) : (S (i + 1)).K.get t = (S i).K.get t := by
  rcases h with ⟨_, s1, h1, h2, hx, hw⟩ | ⟨_, h2, _, hx, hw⟩
  · rw [putA_env h2]
    show s1.K.get t = _
    by_cases hA : X i = .all
    · obtain ⟨e1, _, _⟩ := oneD_all (by rw [fresh_fp, ← hx]; exact hA) h1
      rw [e1]; rfl
    · have hc : isCall o.op = none := by
        cases hc : isCall o.op with
        | none => rfl
        | some c => exact absurd (by rw [hx]; exact isCall_all hc) hA
      unfold oneD at h1
      rw [hc] at h1
      obtain ⟨E, e1, e2, _⟩ := opA_eff (by rw [fresh_fp, ← hx]; exact hA) h1
      rw [fresh_fp, ← hx] at e2
      rw [e1]
      cases E with
      | idle => rfl
      | setG b blk lw => rfl
      | setL b cs =>
        have hne : b ≠ t := by
          intro e; subst e
          rcases e2 with ⟨q1, q2⟩ | ⟨q1, _⟩
          · exact hm (.inl ⟨q1, by rw [hw, q2]; rfl⟩)
          · exact hm (.inr q1)
        show ((S i).fresh.K.set b cs).get t = _
        rw [Tri.get_set_ne _ _ hne]; rfl
  · rw [putA_env h2]

variable (T : Tr P H call f nt ops base kbase l S V X W)
include T

theorem Tr.at {i : Nat} (h : i < ops.size) : ∃ p o, l[i]? = some p ∧ ops[p]? = some o ∧ StepD P H call f nt ops base kbase i o (S i) (V i) (X i) (W i) (S (i + 1)) := by
  have hl : i < l.length := by rw [T.len]; exact h
  obtain ⟨o, h1, h2⟩ := T.step i l[i] (by simp [hl])
  exact ⟨l[i], o, by simp [hl], h1, h2⟩

theorem Tr.knAt : ∀ i, i ≤ ops.size → (S i).kn = kbase + ops.size
  | 0, _ => T.kn
  | i + 1, h => by
    obtain ⟨p, o, _, _, hs⟩ := T.at (i := i) (by omega)
    rw [(hs.sum T.keep).kn, Tr.knAt i (by omega)]
theorem Tr.limAt : ∀ i, i ≤ ops.size → base + ops.size ≤ (S i).h.next
  | 0, _ => T.lim
  | i + 1, h => by
    obtain ⟨p, o, _, _, hs⟩ := T.at (i := i) (by omega)
    exact Nat.le_trans (Tr.limAt i (by omega)) (hs.sum T.keep).next
theorem Tr.lowAt : ∀ d i, i + d ≤ ops.size → (S (i + d)).h.low ≤ (S i).h.low
  | 0, i, _ => Nat.le_refl _
  | d + 1, i, h => by
    obtain ⟨p, o, _, _, hs⟩ := T.at (i := i + d) (by omega)
    exact Nat.le_trans (hs.sum T.keep).low (Tr.lowAt d i (by omega))

theorem Tr.stableG {id : Nat} : ∀ d i, i + d ≤ ops.size → (∀ j, i ≤ j → j < i + d → ¬ ModG S X W j id) → (S (i + d)).h.m.get id = (S i).h.m.get id
  | 0, i, _, _ => rfl
  | d + 1, i, h, hm => by
    obtain ⟨p, o, _, _, hs⟩ := T.at (i := i + d) (by omega)
    have := hs.getG T.keep (hm (i + d) (by omega) (by omega))
    rw [show i + (d + 1) = i + d + 1 by omega, this]
    exact Tr.stableG d i (by omega) (fun j h1 h2 => hm j h1 (by omega))
theorem Tr.stableL {t : Nat} : ∀ d i, i + d ≤ ops.size → (∀ j, i ≤ j → j < i + d → ¬ ModL X W j t) → (S (i + d)).K.get t = (S i).K.get t
  | 0, i, _, _ => rfl
  | d + 1, i, h, hm => by
    obtain ⟨p, o, _, _, hs⟩ := T.at (i := i + d) (by omega)
    have := hs.getL (hm (i + d) (by omega) (by omega))
    rw [show i + (d + 1) = i + d + 1 by omega, this]
    exact Tr.stableL d i (by omega) (fun j h1 h2 => hm j h1 (by omega))
theorem Tr.stableE {t : Nat} : ∀ d i, i + d ≤ ops.size → (∀ j p o, i ≤ j → j < i + d → l[j]? = some p → ops[p]? = some o → o.dst ≠ some t) → (S (i + d)).env.get t = (S i).env.get t
  | 0, i, _, _ => rfl
  | d + 1, i, h, hm => by
    obtain ⟨p, o, hp, ho, hs⟩ := T.at (i := i + d) (by omega)
    have := (hs.sum T.keep).env t
    rw [if_neg (hm (i + d) p o (by omega) (by omega) hp ho)] at this
    rw [show i + (d + 1) = i + d + 1 by omega, this]
    exact Tr.stableE d i (by omega) (fun j p o h1 h2 => hm j p o h1 (by omega))
theorem Tr.stableN : ∀ d i, i + d ≤ ops.size → (∀ j, i ≤ j → j < i + d → X j ≠ .all) → (S (i + d)).h.next = (S i).h.next
  | 0, i, _, _ => rfl
  | d + 1, i, h, hm => by
    obtain ⟨p, o, hp, ho, hs⟩ := T.at (i := i + d) (by omega)
    have := (hs.sum T.keep).nextEq (hm (i + d) (by omega) (by omega))
    rw [show i + (d + 1) = i + d + 1 by omega, this]
    exact Tr.stableN d i (by omega) (fun j h1 h2 => hm j h1 (by omega))
end

/-- What holds when just the operations of the set E have come up. -/
structure Inv (ops : Array Oper) (base kbase : Nat) (l : List Nat) (S : Nat → St) (X : Nat → FP) (W : Nat → Bool) (J0 : Inj) (s0 : St) (w0 : World) (a0 : Act) (E : Nat → Prop) (a : Act) (w : World) (J : Inj) (s2 : St) : Prop where
  kn : s2.kn = kbase + ops.size
  next : ∀ k, k ≤ ops.size → (∀ (j p : Nat), l[j]? = some p → X j = .all → (E p ↔ j < k)) → s2.h.next = (S k).h.next
  lim : base + ops.size ≤ s2.h.next
  g : ∀ id L k, k ≤ ops.size → J.g id = some L → (∀ (j p : Nat), l[j]? = some p → ModG S X W j id → (E p ↔ j < k)) → s2.h.m.get id = (S k).h.m.get id
  lk : ∀ t L k, k ≤ ops.size → J.l t = some L → (∀ (j p : Nat), l[j]? = some p → ModL X W j t → (E p ↔ j < k)) → s2.K.get t = (S k).K.get t
  low : (S ops.size).h.low ≤ s2.h.low
  good : Good J0 s0 w0 J s2 w
  adds : Adds (base ≤ ·) J0.g J.g
  domg : ∀ (j p : Nat), l[j]? = some p → (J.g (base + j)).isSome = true → E p
  doml : ∀ (j p : Nat), l[j]? = some p → (J.l (kbase + j)).isSome = true → E p
  env : ∀ t v k, k ≤ ops.size → (∀ (j p : Nat) (o : Oper), l[j]? = some p → ops[p]? = some o → o.dst = some t → (E p ↔ j < k)) → (S k).env.get t = some v → t < a.tmps.size ∧ VR J v (a.tmps.getD t undef)
  size : a.tmps.size = a0.tmps.size
  defers : a.defers = a0.defers

theorem Good.left {J J' : Inj} {s t s' : St} {w w' : World} (h : Good J s w J' s' w') (hn : t.h.next = s.h.next) (hl : t.h.low = s.h.low) : Good J t w J' s' w' :=
  { hr := h.hr, mono := h.mono, next := by rw [hn]; exact h.next, low := by rw [hl]; exact h.low, size := h.size, os := h.os, tape := h.tape, output := h.output, fresh := h.fresh, lfresh := h.lfresh, frame := h.frame }

theorem Good.leftLow {J J' : Inj} {s t s' : St} {w w' : World} (h : Good J s w J' s' w') (hn : t.h.next = s.h.next) (hl : s'.h.low ≤ t.h.low) : Good J t w J' s' w' :=
  { hr := h.hr, mono := h.mono, next := by rw [hn]; exact h.next, low := hl, size := h.size, os := h.os, tape := h.tape, output := h.output, fresh := h.fresh, lfresh := h.lfresh, frame := h.frame }

theorem Good.lower {J J' : Inj} {s s' : St} {w w' : World} (h : Good J s w J' s' w') {lo : Nat} (hl : lo ≤ s'.h.low) : Good J s w J' { s' with h := { s'.h with low := lo } } w' :=
  { hr := { gdom := h.hr.gdom, gblk := h.hr.gblk, gcon := h.hr.gcon, ginj := h.hr.ginj, ldom := h.hr.ldom, lcon := h.hr.lcon, linj := h.hr.linj, sep := h.hr.sep }
    mono := h.mono, next := h.next, low := Nat.le_trans hl h.low, size := h.size, os := h.os, tape := h.tape, output := h.output
    fresh := fun id L h1 h2 => (h.fresh id L h1 h2).imp (fun q => q) (fun ⟨a, b, c, d, e⟩ => ⟨a, b, c, d, Nat.le_trans hl e⟩)
    lfresh := h.lfresh, frame := fun b hb hg hll => h.frame b hb (fun id L h1 h2 => Nat.lt_of_lt_of_le (hg id L h1 h2) hl) hll }

end Go.Sim
