/-
  WHAT THE ABSTRACT MACHINE LEAVES ALONE: blocks below the mark 'low' are as they were; what was not there does not come.
-/
import Derived.Test.YtlpnmdknlfmjaaaSimCall
namespace Go.Sim
set_option linter.unusedSimpArgs false

structure KeepB (B : Nat) (h h' : AHeap) : Prop where
  next : h.next ≤ h'.next
  low : h'.low ≤ h.low
  get : ∀ id, id < B → id < h'.low → h'.m.get id = h.m.get id
  gone : ∀ id, id < B → h.m.get id = none → h'.m.get id = none

theorem KeepB.refl (B : Nat) (h : AHeap) : KeepB B h h := ⟨Nat.le_refl _, Nat.le_refl _, fun _ _ _ => rfl, fun _ _ h => h⟩
theorem KeepB.trans {B : Nat} {a b c : AHeap} (h : KeepB B a b) (k : KeepB B b c) : KeepB B a c :=
  ⟨Nat.le_trans h.next k.next, Nat.le_trans k.low h.low, fun id h1 h2 => (k.get id h1 h2).trans (h.get id h1 (Nat.lt_of_lt_of_le h2 k.low)), fun id h1 h2 => k.gone id h1 (h.gone id h1 h2)⟩
theorem KeepB.mono {B B' : Nat} {h h' : AHeap} (k : KeepB B h h') (hb : B' ≤ B) : KeepB B' h h' :=
  ⟨k.next, k.low, fun id h1 h2 => k.get id (by omega) h2, fun id h1 h2 => k.gone id (by omega) h2⟩

theorem KeepB.push {B : Nat} {h : AHeap} (hb : B ≤ h.next) (es : Nat) (cs : List Value) : KeepB B h (h.push es cs) :=
  ⟨by simp [AHeap.push], Nat.le_refl _, fun id h1 _ => by simp only [AHeap.push]; rw [Tri.get_set_ne _ _ (by omega)], fun id h1 h2 => by simp only [AHeap.push]; rw [Tri.get_set_ne _ _ (by omega)]; exact h2⟩

theorem KeepB.write {B : Nat} {h h' : AHeap} {b off : Nat} {vs : List Value} (hw : h.write b off vs = some h') : KeepB B h h' := by
  unfold AHeap.write at hw
  split at hw
  · rename_i es cs hm
    split at hw
    · rename_i cs' _
      simp only [Option.some.injEq] at hw
      subst hw
      refine ⟨Nat.le_refl _, Nat.min_le_left _ _, fun id _ h2 => ?_, fun id _ h2 => ?_⟩
      · have : Nat.min h.low b ≤ b := Nat.min_le_right _ _
        simp only [] at h2 ⊢
        rw [Tri.get_set_ne _ _ (by omega)]
      · simp only []
        by_cases e : b = id
        · subst e; rw [hm] at h2; cases h2
        · rw [Tri.get_set_ne _ _ e]; exact h2
    · cases hw
  · cases hw

theorem KeepB.kill {B : Nat} {h : AHeap} {b : Nat} (hb : h.m.get b ≠ none) : KeepB B h (h.kill b) := by
  refine ⟨Nat.le_refl _, Nat.min_le_left _ _, fun id _ h2 => ?_, fun id _ h2 => ?_⟩
  · have : Nat.min h.low b ≤ b := Nat.min_le_right _ _
    simp only [AHeap.kill] at h2 ⊢
    rw [Tri.get_set_ne _ _ (by omega)]
  · simp only [AHeap.kill]
    by_cases e : b = id
    · subst e; exact absurd h2 hb
    · rw [Tri.get_set_ne _ _ e]; exact h2

theorem write_keep {B : Nat} {s s' : St} {a : Addr} {vs : List Value} (h : s.write a vs = some s') : KeepB B s.h s'.h := by
  unfold St.write at h
  cases hok : vs.all cellOK with
  | false => rw [hok] at h; simp at h
  | true =>
    rw [hok] at h
    simp only [cond_true] at h
    split at h
    · split at h
      · rename_i h' hw; simp only [Option.some.injEq] at h; subst h; exact .write hw
      · cases h
    · cases hb : Nat.blt a.block s.kn with
      | false => rw [hb] at h; simp at h
      | true =>
        rw [hb] at h
        simp only [cond_true] at h
        split at h
        · split at h
          · simp only [Option.some.injEq] at h; subst h; exact .refl _ _
          · cases h
        · cases h

/-- What is asked of a maker. -/
def MkKeep (B : Nat) (s : St) (mk : Maker) : Prop := ∀ loc es cells v s', mk loc es cells = some (v, s') → KeepB B s.h s'.h

theorem new_keep {B : Nat} {s : St} (hb : B ≤ s.h.next) : MkKeep B s s.new := by
  intro loc es cells v s' h
  unfold St.new at h
  cases hc : cells.all cellOK with
  | false => rw [hc] at h; simp at h
  | true =>
    rw [hc] at h
    cases loc with
    | false => simp only [cond_true, cond_false, Option.some.injEq, Prod.mk.injEq] at h; obtain ⟨_, rfl⟩ := h; exact .push hb _ _
    | true => simp only [cond_true, Option.some.injEq, Prod.mk.injEq] at h; obtain ⟨_, rfl⟩ := h; exact .refl _ _

theorem newAt_keep {B : Nat} {s : St} {id tag : Nat} (hb : B ≤ id) : MkKeep B s (s.newAt id tag) := by
  intro loc es cells v s' h
  unfold St.newAt at h
  cases hc : cells.all cellOK with
  | false => rw [hc] at h; simp at h
  | true =>
    rw [hc] at h
    cases loc with
    | false =>
      simp only [cond_true, cond_false, Option.some.injEq, Prod.mk.injEq] at h; obtain ⟨_, rfl⟩ := h
      exact ⟨Nat.le_refl _, Nat.le_refl _, fun k h1 _ => by simp only []; rw [Tri.get_set_ne _ _ (by omega)], fun k h1 h2 => by simp only []; rw [Tri.get_set_ne _ _ (by omega)]; exact h2⟩
    | true => simp only [cond_true, Option.some.injEq, Prod.mk.injEq] at h; obtain ⟨_, rfl⟩ := h; exact .refl _ _

theorem writeG_keep {B : Nat} {h h' : AHeap} {a : Addr} {vs : List Value} (hw : h.writeG a vs = some h') : KeepB B h h' := by
  unfold AHeap.writeG at hw
  split at hw
  · cases hc : vs.all cellOK with
    | false => rw [hc] at hw; simp at hw
    | true => rw [hc] at hw; simp only [cond_true] at hw; exact .write hw
  · cases hw

theorem appendH_keep {P : Program} {B : Nat} {h h' : AHeap} {ts : List TypeId} {args : List Value} {v : Value} (hb : B ≤ h.next) (hh : appendH P h ts args = some (v, h')) : KeepB B h h' := by
  unfold appendH at hh
  simp only [Bool.cond_eq_ite] at hh
  repeat' split at hh
  all_goals first
    | (cases hh; done)
    | (simp only [Option.some.injEq, Prod.mk.injEq] at hh; obtain ⟨_, rfl⟩ := hh; exact .refl _ _)
    | (simp only [Option.some.injEq, Prod.mk.injEq] at hh; obtain ⟨_, rfl⟩ := hh; exact .push hb _ _)
    | (simp only [Option.some.injEq, Prod.mk.injEq] at hh; obtain ⟨_, rfl⟩ := hh; exact writeG_keep (by assumption))
    | (simp only [Option.some.injEq, Prod.mk.injEq] at hh; obtain ⟨_, rfl⟩ := hh; rename_i hl _ _; exact (KeepB.kill (by rw [hl]; simp)).trans (.push (by exact hb) _ _))

theorem copyH_keep {P : Program} {B : Nat} {h h' : AHeap} {ts : List TypeId} {args : List Value} {v : Value} (hh : copyH P h ts args = some (v, h')) : KeepB B h h' := by
  unfold copyH at hh
  simp only [Bool.cond_eq_ite] at hh
  repeat' split at hh
  all_goals first
    | (cases hh; done)
    | (simp only [Option.some.injEq, Prod.mk.injEq] at hh; obtain ⟨_, rfl⟩ := hh; exact .refl _ _)
    | (simp only [Option.some.injEq, Prod.mk.injEq] at hh; obtain ⟨_, rfl⟩ := hh; exact writeG_keep (by assumption))

theorem storeA_keep {P : Program} {B : Nat} {s s' : St} {t : TypeId} {a : Addr} {v : Value} (h : storeA P s t a v = some s') : KeepB B s.h s'.h := by
  unfold storeA at h
  simp only [Bool.cond_eq_ite] at h
  repeat' split at h
  all_goals first
    | (cases h; done)
    | exact write_keep h

theorem opA_keep {P : Program} {B : Nat} {mk : Maker} {s s' : St} {loc : Bool} {op : Op} {v : Value} (hb : B ≤ s.h.next) (hM : MkKeep B s mk) (h : opA P mk loc op s = some (v, s')) : KeepB B s.h s'.h := by
  unfold opA at h
  split at h
  case h_7 =>
    unfold buildSliceA at h
    (try simp only [Bool.cond_eq_ite] at h)
    repeat' split at h
    all_goals (try simp only [Bool.cond_eq_ite] at h)
    all_goals repeat' split at h
    all_goals first
      | (cases h; done)
      | (simp only [Option.some.injEq, Prod.mk.injEq] at h; obtain ⟨_, rfl⟩ := h; exact hM _ _ _ _ _ (by assumption))
  case h_15 =>
    unfold makeSliceA at h
    repeat' split at h
    all_goals first
      | (cases h; done)
      | (simp only [Option.some.injEq, Prod.mk.injEq] at h; obtain ⟨_, rfl⟩ := h; exact hM _ _ _ _ _ (by assumption))
  all_goals (try simp only [Bool.cond_eq_ite] at h)
  all_goals repeat' split at h
  all_goals first
    | (cases h; done)
    | (simp only [Option.some.injEq, Prod.mk.injEq] at h; obtain ⟨_, rfl⟩ := h; exact .refl _ _)
    | exact hM _ _ _ _ _ h
    | (simp only [Option.some.injEq, Prod.mk.injEq] at h; obtain ⟨_, rfl⟩ := h; exact storeA_keep (by assumption))
    | (obtain ⟨h', h1, rfl⟩ := withHeap_spec h; exact appendH_keep hb h1)
    | (obtain ⟨h', h1, rfl⟩ := withHeap_spec h; exact copyH_keep h1)

/-- What is asked of a table of calls. -/
def CallKeep (call : CallT) : Prop := ∀ g args h v h', call g args h = some (v, h') → KeepB h.next h h'

theorem callOp_keep {call : CallT} (hc : CallKeep call) {B : Nat} {s s' : St} {c : Call} {v : Value} (hb : B ≤ s.h.next) (h : callOp call c s = some (v, s')) : KeepB B s.h s'.h := by
  unfold callOp at h
  split at h
  · split at h
    · rename_i hr
      simp only [Option.some.injEq, Prod.mk.injEq] at h; obtain ⟨_, rfl⟩ := h
      exact (hc _ _ _ _ _ hr).mono hb
    · cases h
  · cases h

theorem oneA_keep {P : Program} {H : Hint} {call : CallT} (hc : CallKeep call) {B : Nat} {f : FuncId} {o : Oper} {s s' : St} {v : Value} (hb : B ≤ s.h.next) (h : oneA P H call f o s = some (v, s')) : KeepB B s.h s'.h := by
  unfold oneA at h
  split at h
  · exact callOp_keep hc hb h
  · exact opA_keep hb (new_keep hb) h

theorem oneD_keep {P : Program} {H : Hint} {call : CallT} (hc : CallKeep call) {B id tag : Nat} {f : FuncId} {o : Oper} {s s' : St} {v : Value} (hb : B ≤ s.h.next) (hid : B ≤ id) (h : oneD P H call f id tag o s = some (v, s')) : KeepB B s.h s'.h := by
  unfold oneD at h
  split at h
  · exact callOp_keep hc hb h
  · exact opA_keep hb (newAt_keep hid) h

theorem putA_keep {nt : Nat} {dst : Option Tmp} {s s' : St} {v : Value} (h : putA nt s dst v = some s') : s'.h = s.h := by
  rw [putA_env h]

theorem opsN_keep {P : Program} {H : Hint} {call : CallT} (hc : CallKeep call) {f : FuncId} {nt : Nat} {ops : Array Oper} {B : Nat} : ∀ (l : List Oper) (s s' : St), B ≤ s.h.next → opsN P H call f nt ops l s = some s' → KeepB B s.h s'.h
  | [], s, s', _, h => by simp only [opsN, Option.some.injEq] at h; subst h; exact .refl _ _
  | o :: l, s, s', hb, h => by
    simp only [opsN] at h
    split at h
    · split at h
      · rename_i v s1 h1
        split at h
        · rename_i s2 h2
          have k1 := oneA_keep hc hb h1
          have k2 := opsN_keep hc l s2 s' (by rw [putA_keep h2]; exact Nat.le_trans hb k1.next) h
          rw [putA_keep h2] at k2
          exact k1.trans k2
        · cases h
      · cases h
    · split at h
      · rename_i s2 h2
        have k2 := opsN_keep hc l s2 s' (by rw [putA_keep h2]; exact hb) h
        rw [putA_keep h2] at k2
        exact k2
      · cases h
    · cases h

theorem lowered_keep {B : Nat} {s s1 : St} (k : KeepB B s.fresh.h s1.h) : KeepB B s.h (s1.lowered s.h.low).h :=
  ⟨k.next, Nat.min_le_left _ _, fun id h1 h2 => k.get id h1 (Nat.lt_of_lt_of_le h2 (Nat.min_le_right _ _)), fun id h1 h2 => k.gone id h1 h2⟩

theorem opsD_keep {P : Program} {H : Hint} {call : CallT} (hc : CallKeep call) {f : FuncId} {nt : Nat} {ops : Array Oper} {base kbase : Nat} : ∀ (l : List Nat) (i : Nat) (s s' : St) (fps : List (Nat × FP × Bool)), base ≤ s.h.next → opsD P H call f nt ops base kbase l i s = some (s', fps) → KeepB base s.h s'.h
  | [], i, s, s', fps, _, h => by simp only [opsD, Option.some.injEq, Prod.mk.injEq] at h; obtain ⟨rfl, _⟩ := h; exact .refl _ _
  | p :: l, i, s, s', fps, hb, h => by
    simp only [opsD] at h
    split at h
    · cases h
    · split at h
      · split at h
        · rename_i v s1 h1
          split at h
          · rename_i s2 h2
            split at h
            · rename_i r fps' h3
              simp only [Option.some.injEq, Prod.mk.injEq] at h; obtain ⟨rfl, _⟩ := h
              have k1 := lowered_keep (oneD_keep hc (B := base) (s := s.fresh) hb (by omega) h1)
              have k2 := opsD_keep hc l (i + 1) s2 r fps' (by rw [putA_keep h2]; exact Nat.le_trans hb k1.next) h3
              rw [putA_keep h2] at k2
              exact k1.trans k2
            · cases h
          · cases h
        · cases h
      · split at h
        · rename_i s2 h2
          split at h
          · rename_i r fps' h3
            simp only [Option.some.injEq, Prod.mk.injEq] at h; obtain ⟨rfl, _⟩ := h
            have k2 := opsD_keep hc l (i + 1) s2 r fps' (by rw [putA_keep h2]; exact hb) h3
            rw [putA_keep h2] at k2
            exact k2
          · cases h
        · cases h
      · cases h

theorem drawA_keep {P : Program} {H : Hint} {call : CallT} (hc : CallKeep call) {f : FuncId} {nt : Nat} {ops : Array Oper} {s s' : St} (h : drawA P H call f nt ops s = some s') : KeepB s.h.next s.h s'.h := by
  unfold drawA at h
  simp only [Bool.cond_eq_ite] at h
  split at h
  · split at h
    · split at h
      · rename_i h1 _
        simp only [Option.some.injEq] at h; subst h
        have k := opsD_keep hc (base := s.h.next) _ _ _ _ _ (by simp [St.keepNos]) h1
        exact ⟨by have := k.next; simp only [St.keepNos] at this; omega, k.low, k.get, k.gone⟩
      · cases h
    · cases h
  · cases h

theorem norm_keep {H : Hint} {f : FuncId} {c : Code} {kn : Nat} {s s' : St} (h : norm H f c kn s = some s') : s'.h = s.h := by
  unfold norm at h
  split at h
  · simp only [Option.some.injEq] at h; rw [h]
  · simp only [Bool.cond_eq_ite] at h
    split at h
    · simp only [Option.some.injEq] at h; rw [← h]
    · cases h

theorem execA_keep {P : Program} {H : Hint} {F : Prims} (hF : CallKeep F) : ∀ n, (∀ f nt c s x s', (execA P H F n).run f nt c s = some (x, s') → KeepB s.h.next s.h s'.h) ∧ (∀ f nt c kn s x s', (execA P H F n).loop f nt c kn s = some (x, s') → KeepB s.h.next s.h s'.h) ∧ CallKeep (execA P H F n).call
  | 0 => ⟨fun f nt c s x s' h => by simp [execA] at h, fun f nt c kn s x s' h => by simp [execA] at h, fun g args h v h' hh => by simp [execA] at hh⟩
  | n + 1 => by
    obtain ⟨i1, i2, i3⟩ := execA_keep (H := H) hF n
    refine ⟨?_, ?_, ?_⟩
    · intro f nt c s x s' h
      simp only [execA, runS] at h
      split at h
      · simp only [Option.some.injEq, Prod.mk.injEq] at h; obtain ⟨_, rfl⟩ := h; exact .refl _ _
      · simp only [Option.some.injEq, Prod.mk.injEq] at h; obtain ⟨_, rfl⟩ := h; exact .refl _ _
      · simp only [Option.some.injEq, Prod.mk.injEq] at h; obtain ⟨_, rfl⟩ := h; exact .refl _ _
      · split at h
        · rename_i s1 h1
          have k1 := i1 _ _ _ _ _ _ h1
          have k2 := i1 _ _ _ _ _ _ h
          exact k1.trans (k2.mono k1.next)
        · exact i1 _ _ _ _ _ _ h
      · split at h
        · exact i1 _ _ _ _ _ _ h
        · cases h
      · split at h
        · rename_i id' s1 h1
          have k1 := i1 _ _ _ _ _ _ h1
          simp only [Bool.cond_eq_ite] at h
          split at h
          · simp only [Option.some.injEq, Prod.mk.injEq] at h; obtain ⟨_, rfl⟩ := h; exact k1
          · simp only [Option.some.injEq, Prod.mk.injEq] at h; obtain ⟨_, rfl⟩ := h; exact k1
        · exact i1 _ _ _ _ _ _ h
      · exact i2 _ _ _ _ _ _ _ h
      · rename_i ops draw
        split at h
        · rename_i s1 h1
          simp only [Option.some.injEq, Prod.mk.injEq] at h; obtain ⟨_, rfl⟩ := h
          cases draw with
          | true => exact drawA_keep i3 h1
          | false => exact opsN_keep i3 _ _ _ (Nat.le_refl _) h1
        · cases h
      · cases h
    · intro f nt c kn s x s' h
      simp only [execA, loopS] at h
      split at h
      · cases h
      · rename_i s1 h0
        have e0 := norm_keep h0
        split at h
        · rename_i s2 h1
          have k1 := i1 _ _ _ _ _ _ h1
          have k2 := i2 _ _ _ _ _ _ _ h
          rw [e0] at k1
          exact k1.trans (k2.mono k1.next)
        · have k1 := i1 _ _ _ _ _ _ h
          rw [e0] at k1
          exact k1
    · intro g args h v h' hh
      simp only [execA, callS] at hh
      split at hh
      · rename_i r hr
        simp only [Option.some.injEq] at hh
        subst hh
        exact hF _ _ _ _ _ hr
      · split at hh
        · rename_i fn _
          split at hh
          · have key : ∀ s, endA P fn s = some (v, h') → h' = s.h := by
              intro s he
              unfold endA at he
              simp only [Bool.cond_eq_ite] at he
              repeat' split at he
              all_goals first | (cases he; done) | (simp only [Option.some.injEq, Prod.mk.injEq] at he; exact he.2.symm)
            split at hh
            · rename_i s1 h1
              have k1 := i1 _ _ _ _ _ _ h1
              rw [key _ hh]; exact k1
            · rename_i s1 h1
              have k1 := i1 _ _ _ _ _ _ h1
              rw [key _ hh]; exact k1
            · cases hh
          · cases hh
        · cases hh

end Go.Sim
