/-
  THE SYMBOLIC RUNS SERVE: regions, code, loops, functions.
-/
import Derived.Test.YtlpnmdknlfmjaaaSymSound2
namespace Go.Sim
set_option linter.unusedSimpArgs false
set_option linter.unusedVariables false

variable {P : Unit → Program} {H : Hint} {F : Prims} {V : Live}

theorem withX_id (t : St) : withX (fun h => h) t = t := rfl

theorem wpOps_ok {f : FuncId} {nt : Nat} {ops : Array Oper} : ∀ (l : List Oper) (s : SS) (t : St) (Q : SS → Prop), Le s t → wpOps P H (atomsOf (P ()) H F) f nt ops l s Q →
    ∃ n t' s', opsN (P ()) H (execA (P ()) H F n).call f nt ops l t = some t' ∧ Le s' t' ∧ Q s'
  | [], s, t, Q, hs, h => ⟨0, t, s, rfl, hs, h⟩
  | o :: rest, s, t, Q, hs, h => by
    simp only [wpOps] at h
    simp only [opsN]
    rcases wpGuard_ok hs h with ⟨hw, s1, hs1, e1, e2, h⟩ | ⟨hw, s1, hs1, e1, e2, h⟩
    · simp only [hw]
      unfold wpOne at h
      split at h
      · rename_i c hc
        split at h
        · rename_i g args hg
          obtain ⟨v, h', ⟨n1, hr⟩, h⟩ := h.ex
          have h := seenFor_ex h
          have hs2 : Le { s1 with h := h' } { t with h := h' } := ⟨hs1.env, hs1.K, hs1.kn, rfl⟩
          obtain ⟨t3, s3, hp, hs3, h, _⟩ := hs2.put h
          obtain ⟨n2, t4, s4, ho, hs4, hQ⟩ := wpOps_ok rest s3 t3 Q hs3 h
          refine ⟨max n1 n2, t4, s4, ?_, hs4, hQ⟩
          have hone : oneA (P ()) H (execA (P ()) H F (max n1 n2)).call f o t = some (v, { t with h := h' }) := by
            unfold oneA
            simp only [hc, callOp, hs1.callee hg]
            have : (execA (P ()) H F (max n1 n2)).call g args t.h = some (v, h') := by
              rw [hs1.h]
              exact (execA_le (Nat.le_max_left n1 n2)).call _ _ _ _ hr
            simp only [this]
          simp only [hone, hp]
          exact opsN_mono (execA_le (Nat.le_max_right n1 n2)).call _ _ _ ho
        · exact h.elim
      · rename_i hc
        obtain ⟨v, t2, s2, ho, hs2, h⟩ := wpOp_ok (m := t.new) XOK.id (by exact hs1) (newS_ok s1 t hs1) (.inr fun _ => rfl) h
        obtain ⟨t3, s3, hp, hs3, h, _⟩ := Le.put (t := t2) hs2 h
        obtain ⟨n2, t4, s4, ho2, hs4, hQ⟩ := wpOps_ok rest s3 t3 Q hs3 h
        refine ⟨n2, t4, s4, ?_, hs4, hQ⟩
        have hone : oneA (P ()) H (execA (P ()) H F n2).call f o t = some (v, t2) := by
          unfold oneA
          simp only [hc]
          exact ho
        simp only [hone, hp]
        exact ho2
    · simp only [hw]
      obtain ⟨t3, s3, hp, hs3, h, _⟩ := hs1.put h
      obtain ⟨n2, t4, s4, ho2, hs4, hQ⟩ := wpOps_ok rest s3 t3 Q hs3 h
      refine ⟨n2, t4, s4, ?_, hs4, hQ⟩
      simp only [hp]
      exact ho2

/-! ### Regions that draw -/

theorem newAt_low {id tag : Nat} {t t1 : St} {loc : Bool} {es : Nat} {cs : List Value} {v : Value} (h : t.newAt id tag loc es cs = some (v, t1)) : t1.h.low = t.h.low := by
  unfold St.newAt at h
  cases hok : cs.all cellOK with
  | false => rw [hok] at h; cases h
  | true =>
    rw [hok] at h
    cases loc with
    | true => simp only [cond_true, Option.some.injEq, Prod.mk.injEq] at h; obtain ⟨_, rfl⟩ := h; rfl
    | false => simp only [cond_true, cond_false, Option.some.injEq, Prod.mk.injEq] at h; obtain ⟨_, rfl⟩ := h; rfl

theorem makeSlice_low {id tag : Nat} {t t1 : St} {ty : TypeId} {l c v : Value} (h : makeSliceA (P ()) (t.newAt id tag) ty l c = some (v, t1)) : t1.h.low = t.h.low := by
  unfold makeSliceA at h
  split at h
  · split at h
    · split at h
      · split at h
        · rename_i a s' hm
          simp only [Option.some.injEq, Prod.mk.injEq] at h; obtain ⟨_, rfl⟩ := h
          exact newAt_low hm
        · cases h
      · cases h
    · cases h
  · cases h

theorem buildSlice_low {id tag : Nat} {t t1 : St} {ty : TypeId} {len : Nat} {parts : List (Nat × Value)} {v : Value} (h : buildSliceA (P ()) (t.newAt id tag) ty len parts = some (v, t1)) : t1.h.low = t.h.low := by
  unfold buildSliceA at h
  split at h
  · split at h
    · rename_i n z _ _
      cases hb : (Nat.ble (len * n) 16777216 && Nat.beq z.cells.toList.length n && Nat.ble len 16777216) with
      | false => rw [hb] at h; cases h
      | true =>
        rw [hb] at h
        simp only [cond_true] at h
        split at h
        · split at h
          · rename_i a s' hm
            simp only [Option.some.injEq, Prod.mk.injEq] at h; obtain ⟨_, rfl⟩ := h
            exact newAt_low hm
          · cases h
        · cases h
    · cases h
  · cases h

theorem same_of {α : Type} {x : Option α} {t t1 : St} {v : α} (h : (match x with | some v => some (v, t) | none => none) = some (v, t1)) : t1 = t := by
  split at h
  · simp only [Option.some.injEq, Prod.mk.injEq] at h; exact h.2.symm
  · cases h

theorem opA_low {id tag : Nat} {t t1 : St} {loc : Bool} {o : Op} {v : Value} (hsm : small o = true) (hst : isStore o = false) (h : opA (P ()) (t.newAt id tag) loc o t = some (v, t1)) : t1.h.low = t.h.low := by
  unfold opA at h
  split at h
  case h_4 => split at h <;> first | exact newAt_low h | cases h
  case h_5 => split at h <;> first | exact newAt_low h | cases h
  case h_7 => split at h <;> first | exact buildSlice_low h | cases h
  case h_15 => split at h <;> first | exact makeSlice_low h | cases h
  case h_9 => simp [isStore] at hst
  case h_22 =>
    rename_i b args argTypes
    cases b <;> simp [small, pureOp] at hsm
    all_goals
      (split at h
       · rename_i l hl
         rcases l with _ | ⟨x, _ | ⟨y, r⟩⟩
         all_goals
           (simp only [] at h
            repeat' split at h
            all_goals first
              | (cases h; done)
              | (cases h; rfl))
       · cases h)
  all_goals
    (repeat' split at h
     all_goals first
       | (cases h; done)
       | (cases h; rfl)
       | (simp only [Option.some.injEq, Prod.mk.injEq] at h; obtain ⟨_, rfl⟩ := h; rfl)
       | (rename_i l r _ _; cases hb : (l.all noLoc && r.all noLoc) <;> rw [hb] at h <;> first | (cases h; done) | (cases h; rfl)))

theorem apartP_ok {lim : Nat} {x : FP} {wx : Bool} {y : FP} {wy : Bool} {C : Prop} (h : apartP (atomsOf (P ()) H F) lim x wx y wy C) : clash lim x wx y wy = false ∧ C := by
  unfold apartP at h
  split at h
  · exact ⟨rfl, h⟩
  · split at h
    · exact ⟨rfl, h⟩
    · exact h.elim
  · rename_i l b
    split at h
    · exact ⟨rfl, h⟩
    · rcases condB h with ⟨rfl, h2⟩ | ⟨rfl, h2⟩
      · exact ⟨by simp [clash], h2⟩
      obtain ⟨⟨rfl, rfl, h1⟩, h3⟩ := h2
      refine ⟨?_, h3⟩
      rcases h1 with h1 | h1
      · cases h1
      · simp [clash, blt_true h1]
    · rename_i l' b'
      rcases condB h with ⟨e, h1⟩ | ⟨e, h1⟩
      · rcases condB h1 with ⟨e2, h2⟩ | ⟨e2, h2⟩
        · exact ⟨by have h3 : b ≠ b' := h2.1; simp [clash, same, beq_eq, h3], h2.2⟩
        · exact ⟨by simp [clash, same, e2], h2⟩
      · exact ⟨by simp [clash, e], h1⟩
    · rename_i l' b'
      rcases condB h with ⟨e2, h2⟩ | ⟨e2, h2⟩
      · exact ⟨by have h3 : b ≠ b' := h2.1; simp [clash, same, beq_eq, h3], h2.2⟩
      · exact ⟨by simp [clash, same, e2], h2⟩
  · rename_i l b
    split at h
    · exact ⟨rfl, h⟩
    · obtain ⟨rfl, h⟩ := h
      exact ⟨rfl, h⟩
    · rename_i l' b'
      rcases condB h with ⟨e2, h2⟩ | ⟨e2, h2⟩
      · exact ⟨by have h3 : b ≠ b' := h2.1; simp [clash, same, beq_eq, h3], h2.2⟩
      · exact ⟨by simp [clash, same, e2], h2⟩
    · rename_i l' b'
      rcases condB h with ⟨e2, h2⟩ | ⟨e2, h2⟩
      · exact ⟨by have h3 : b ≠ b' := h2.1; simp [clash, same, beq_eq, h3], h2.2⟩
      · exact ⟨by simp [clash, same, e2], h2⟩

theorem apartAll_ok {ops : Array Oper} {lim p : Nat} {x : FP} {wx : Bool} : ∀ {r : List (Nat × FP × Bool)} {C : Prop}, apartAll (atomsOf (P ()) H F) ops lim p x wx r C →
    r.all (fun (q, y, wy) => !(clash lim x wx y wy) || prec (Region.before ops) p q) = true ∧ C
  | [], C, h => ⟨rfl, h⟩
  | (q, y, wy) :: r, C, h => by
    simp only [apartAll] at h
    rcases condB h with ⟨e, h⟩ | ⟨e, h⟩
    · obtain ⟨h1, h2⟩ := apartAll_ok h
      exact ⟨by simp only [List.all_cons, e, Bool.or_true, Bool.true_and]; exact h1, h2⟩
    · obtain ⟨h0, h⟩ := apartP_ok h
      obtain ⟨h1, h2⟩ := apartAll_ok h
      exact ⟨by simp only [List.all_cons, h0, Bool.not_false, Bool.true_or, Bool.true_and]; exact h1, h2⟩

theorem apartP'_ok {ops : Array Oper} {lim : Nat} : ∀ {r : List (Nat × FP × Bool)} {C : Prop}, apartP' (atomsOf (P ()) H F) ops lim r C → fpsOK ops lim r = true ∧ C
  | [], C, h => ⟨rfl, h⟩
  | (p, x, wx) :: r, C, h => by
    simp only [apartP'] at h
    obtain ⟨h1, h⟩ := apartAll_ok h
    obtain ⟨h2, h⟩ := apartP'_ok h
    refine ⟨?_, h⟩
    unfold fpsOK at h2 ⊢
    simp only [pairs, h2, Bool.and_true]
    exact h1

theorem fp_ok {s : SS} {t : St} (hs : Le s t) {o : Op} {loc : Bool} {id tag : Nat} (h : ∀ x, (∃ ty, o = .load ty x) ∨ (∃ ty y, o = .store ty x y) → (ev s x).isSome = true) : fpOf o loc id tag t = fpS o loc id tag s := by
  unfold fpOf fpS
  cases hp : pureOp o with
  | true => rfl
  | false =>
    simp only [cond_false]
    cases o <;> try rfl
    · rename_i ty x
      have := h x (.inl ⟨ty, rfl⟩)
      cases hv : ev s x with
      | none => rw [hv] at this; cases this
      | some v =>
        simp only [hs.ev hv, hv]
        cases v <;> rfl
    · rename_i ty x y
      have := h x (.inr ⟨ty, y, rfl⟩)
      cases hv : ev s x with
      | none => rw [hv] at this; cases this
      | some v =>
        simp only [hs.ev hv, hv]
        cases v <;> rfl

theorem wpOp_ev {mk : SMaker} {s : SS} {loc : Bool} {o : Op} {C : Value → SS → Prop} (h : wpOp P (atomsOf (P ()) H F) mk loc o s C) : ∀ x, (∃ ty, o = .load ty x) ∨ (∃ ty y, o = .store ty x y) → (ev s x).isSome = true := by
  rintro x (⟨ty, rfl⟩ | ⟨ty, y, rfl⟩)
  · simp only [wpOp] at h
    split at h
    · rename_i a ha; rw [ha]; rfl
    · exact h.elim
  · simp only [wpOp] at h
    split at h
    · rename_i a v ha hv; rw [ha]; rfl
    · exact h.elim

theorem isCall_fp {o : Op} {c : Call} (h : isCall o = some c) {loc : Bool} {id tag : Nat} {t : St} : fpOf o loc id tag t = .all ∧ isStore o = false := by
  unfold isCall at h
  split at h
  · rename_i c'
    split at h
    · rename_i x hx
      obtain ⟨callee, args, tys⟩ := c'
      subst hx
      exact ⟨rfl, rfl⟩
    · cases h
  · cases h

theorem notSmall_fp {o : Op} (h : small o = false) {loc : Bool} {id tag : Nat} {t : St} : fpOf o loc id tag t = .all ∧ isStore o = false := by
  unfold fpOf
  have hp : pureOp o = false := by
    unfold small at h
    split at h
    all_goals first | (cases h; done) | exact h
  rw [hp]
  simp only [cond_false]
  cases o <;> first | (simp [small] at h; done) | exact ⟨rfl, rfl⟩

theorem wpOpsD_ok (hF : CallKeep F) {f : FuncId} {nt : Nat} {ops : Array Oper} {base kbase : Nat} : ∀ (l : List Nat) (i : Nat) (s : SS) (t : St) (Q : SS → List (Nat × FP × Bool) → Prop), Le s t → t.h.low ≤ t.h.next → base ≤ t.h.next → wpOpsD P H (atomsOf (P ()) H F) f nt ops base kbase l i s Q →
    ∃ n t' s' fps, opsD (P ()) H (execA (P ()) H F n).call f nt ops base kbase l i t = some (t', fps) ∧ Le s' t' ∧ Q s' fps
  | [], i, s, t, Q, hs, hl, hb, h => ⟨0, t, s, [], rfl, hs, h⟩
  | p :: rest, i, s, t, Q, hs, hl, hb, h => by
    simp only [wpOpsD] at h
    simp only [opsD]
    split at h
    · exact h.elim
    · rename_i o hop
      simp only [hop]
      rcases wpGuard_ok hs h with ⟨hw, s1, hs1, e1, e2, h⟩ | ⟨hw, s1, hs1, e1, e2, h⟩
      · simp only [hw]
        have hfr : (t.fresh).h = (atomsOf (P ()) H F).fresh s1.h := by
          rw [← hs1.h]; rfl
        split at h
        · rename_i c hc
          split at h
          · rename_i g args hg
            obtain ⟨v, h', ⟨n1, hr⟩, h⟩ := h.ex
            have h := seenFor_ex h
            have hk : KeepB t.h.next t.fresh.h h' := by
              have := (execA_keep hF n1).2.2 _ _ _ _ _ hr
              rw [← hfr] at this
              exact this
            have hs2 : Le { s1 with h := (atomsOf (P ()) H F).lowered s1.h h' } (St.lowered { t with h := h' } t.h.low) := ⟨hs1.env, hs1.K, hs1.kn, by show AHeap.lowered h' t.h.low = AHeap.lowered h' s1.h.low; rw [hs1.h]⟩
            obtain ⟨t3, s3, hp, hs3, h, eh⟩ := hs2.put h
            have k2 : KeepB base t.h t3.h := by rw [eh]; exact lowered_keep (s1 := { t with h := h' }) (hk.mono hb)
            obtain ⟨n2, t4, s4, fps, ho, hs4, hQ⟩ := wpOpsD_ok hF rest (i + 1) s3 t3 _ hs3 (Nat.le_trans k2.low (Nat.le_trans hl k2.next)) (Nat.le_trans hb k2.next) h
            refine ⟨max n1 n2, t4, s4, _, ?_, hs4, hQ⟩
            have hone : oneD (P ()) H (execA (P ()) H F (max n1 n2)).call f (base + i) (kbase + i) o t.fresh = some (v, { t with h := h' }) := by
              unfold oneD
              have hs1' : Le { s1 with h := t.fresh.h } t.fresh := ⟨hs1.env, hs1.K, hs1.kn, rfl⟩
              have hg' : calleeS { s1 with h := t.fresh.h } c = some (g, args) := by
                have evE : ∀ x, ev { s1 with h := t.fresh.h } x = ev s1 x := fun x => by cases x <;> rfl
                have evsE : ∀ l, evs { s1 with h := t.fresh.h } l = evs s1 l := fun l => by
                  induction l with
                  | nil => rfl
                  | cons x r ih => simp only [evs, evE, ih]
                have := hg
                unfold calleeS at this ⊢
                simp only [evE, evsE]
                exact this
              have hca : calleeA t.fresh c = some (g, args) := hs1'.callee hg'
              simp only [hc, callOp, hca]
              have : (execA (P ()) H F (max n1 n2)).call g args t.fresh.h = some (v, h') := by
                rw [hfr]
                exact (execA_le (Nat.le_max_left n1 n2)).call _ _ _ _ hr
              simp only [this]
              rfl
            simp only [hone, hp, opsD_mono (execA_le (Nat.le_max_right n1 n2)).call _ _ _ _ ho]
            obtain ⟨f1, f2⟩ := isCall_fp (o := o.op) hc (loc := locOf H f o) (id := base + i) (tag := kbase + i) (t := t)
            rw [f1, f2, Bool.false_or, hs1.h]
            rfl
          · exact h.elim
        · rename_i hc
          rcases condB h with ⟨hsm, h⟩ | ⟨hsm, h⟩
          rotate_left
          · have hs1' : Le { s1 with h := (atomsOf (P ()) H F).fresh s1.h } t.fresh := ⟨hs1.env, hs1.K, hs1.kn, hfr⟩
            obtain ⟨v, t2, s2, ho, hs2, h⟩ := wpOp_ok (m := t.fresh.newAt (base + i) (kbase + i)) XOK.id (t := t.fresh) hs1' (newAtS_ok XOK.id (base + i) (kbase + i) _ t.fresh hs1') (.inr fun _ => rfl) h
            have hone : ∀ n, oneD (P ()) H (execA (P ()) H F n).call f (base + i) (kbase + i) o t.fresh = some (v, t2) := by
              intro n
              unfold oneD
              simp only [hc]
              exact ho
            have hk : KeepB base t.fresh.h t2.h := oneD_keep (execA_keep hF 0).2.2 hb (Nat.le_add_right _ _) (hone 0)
            have hs3 : Le { s2 with h := (atomsOf (P ()) H F).lowered s1.h s2.h } (t2.lowered t.h.low) := ⟨hs2.env, hs2.K, hs2.kn, by
              show AHeap.lowered t2.h t.h.low = AHeap.lowered s2.h s1.h.low
              rw [hs1.h, show t2.h = s2.h from hs2.h]⟩
            obtain ⟨t3, s3, hp, hs3, h, eh⟩ := hs3.put h
            have k2 : KeepB base t.h t3.h := by rw [eh]; exact lowered_keep hk
            obtain ⟨n2, t4, s4, fps, ho2, hs4, hQ⟩ := wpOpsD_ok hF rest (i + 1) s3 t3 _ hs3 (Nat.le_trans k2.low (Nat.le_trans hl k2.next)) (Nat.le_trans hb k2.next) h
            refine ⟨n2, t4, s4, _, ?_, hs4, hQ⟩
            simp only [hone, hp, ho2]
            obtain ⟨f1, f2⟩ := notSmall_fp hsm (loc := locOf H f o) (id := base + i) (tag := kbase + i) (t := t)
            rw [f1, f2, Bool.false_or, hs1.h, show t2.h = s2.h from hs2.h]
            rfl
          have hX := XOK.lowered t.h.low
          have hsX : Le s1 (withX (fun h => h.lowered t.h.low) t.fresh) := ⟨hs1.env, hs1.K, hs1.kn, by
            show AHeap.lowered t.fresh.h t.h.low = s1.h
            rw [← hs1.h]
            have : Nat.min t.h.low t.h.next = t.h.low := Nat.min_eq_left hl
            show ({ next := t.h.next, low := Nat.min t.h.low t.h.next, m := t.h.m } : AHeap) = t.h
            rw [this]⟩
          have hev := wpOp_ev h
          obtain ⟨v, t2, s2, ho, hs2, h⟩ := wpOp_ok (m := t.fresh.newAt (base + i) (kbase + i)) hX hsX (newAtS_ok hX (base + i) (kbase + i) s1 t.fresh hsX) (.inl hsm) h
          have hone : ∀ n, oneD (P ()) H (execA (P ()) H F n).call f (base + i) (kbase + i) o t.fresh = some (v, t2) := by
            intro n
            unfold oneD
            simp only [hc]
            exact ho
          have hk : KeepB base t.fresh.h t2.h := oneD_keep (execA_keep hF 0).2.2 hb (Nat.le_add_right _ _) (hone 0)
          obtain ⟨t3, s3, hp, hs3, h, eh⟩ := Le.put (t := t2.lowered t.h.low) hs2 h
          have k2 : KeepB base t.h t3.h := by rw [eh]; exact lowered_keep hk
          obtain ⟨n2, t4, s4, fps, ho2, hs4, hQ⟩ := wpOpsD_ok hF rest (i + 1) s3 t3 _ hs3 (Nat.le_trans k2.low (Nat.le_trans hl k2.next)) (Nat.le_trans hb k2.next) h
          refine ⟨n2, t4, s4, _, ?_, hs4, hQ⟩
          simp only [hone, hp, ho2]
          rw [fp_ok hs1 hev]
          have hfl : (isStore o.op || Nat.blt t2.h.low t.h.next) = isStore o.op := by
            cases hst : isStore o.op with
            | true => rfl
            | false =>
              rw [opA_low hsm hst ho]
              exact blt_false (Nat.le_refl _)
          rw [hfl]
          rfl
      · simp only [hw]
        obtain ⟨t3, s3, hp, hs3, h, eh⟩ := hs1.put h
        obtain ⟨n2, t4, s4, fps, ho2, hs4, hQ⟩ := wpOpsD_ok hF rest (i + 1) s3 t3 _ hs3 (by rw [eh]; exact hl) (by rw [eh]; exact hb) h
        refine ⟨n2, t4, s4, _, ?_, hs4, hQ⟩
        simp only [hp, ho2]

theorem wpDraw_ok (hF : CallKeep F) {f : FuncId} {nt : Nat} {ops : Array Oper} {s : SS} {t : St} {Q : SS → Prop} (hs : Le s t) (hl : t.h.low ≤ t.h.next) (h : wpDraw P H (atomsOf (P ()) H F) f nt ops s Q) :
    ∃ n t' s', drawA (P ()) H (execA (P ()) H F n).call f nt ops t = some t' ∧ Le s' t' ∧ Q s' := by
  unfold wpDraw at h
  obtain ⟨hd, h⟩ := condP h
  have hs1 : Le { s with kn := s.kn + ops.size, h := s.h.bump ops.size } (t.keepNos ops.size) := ⟨hs.env, hs.K, by show t.kn + ops.size = _; rw [hs.kn], by show AHeap.bump t.h ops.size = _; rw [hs.h]⟩
  obtain ⟨n, t', s', fps, ho, hs', h⟩ := wpOpsD_ok hF _ _ _ _ _ hs1 (by show t.h.low ≤ t.h.next + ops.size; omega) (by show s.h.next ≤ t.h.next + ops.size; rw [hs.h]; omega) h
  obtain ⟨hf, h⟩ := apartP'_ok h
  refine ⟨n, t', s', ?_, hs', h⟩
  unfold drawA
  have ho' : opsD (P ()) H (execA (P ()) H F n).call f nt ops t.h.next t.kn (orderOf ops) 0 (t.keepNos ops.size) = some (t', fps) := by
    rw [hs.h, hs.kn]; exact ho
  have hf' : fpsOK ops (t.h.next + ops.size) fps = true := by rw [hs.h]; exact hf
  simp only [hd, cond_true, ho', hf']

/-! ### Code -/

theorem condSome {α : Type} {b : Bool} {x y : α} (h : (bif b then some x else none) = some y) : b = true ∧ x = y := by
  cases b with
  | true => exact ⟨rfl, by simpa using h⟩
  | false => cases h

theorem cond_some_of {α : Type} {b : Bool} {x : α} (h : b = true) : (bif b then some x else none) = some x := by rw [h]; rfl

theorem normS_ok {f : FuncId} {c : Code} {kn : Nat} {s s0 : SS} {t : St} (hs : Le s t) (h : normS H f c kn s = some s0) : ∃ t0, norm H f c kn t = some t0 ∧ Le s0 t0 ∧ t0.h = t.h := by
  unfold normS at h
  unfold norm
  split at h
  · rename_i hk
    simp only [Option.some.injEq] at h; subst h; rw [hk]; exact ⟨t, rfl, hs, rfl⟩
  · rename_i l hk
    rw [hk]
    obtain ⟨hb, rfl⟩ := condSome h
    · simp only [Bool.and_eq_true] at hb
      have key : ∀ (ks : List Tmp) (acc : Tri Value) (i : Nat), (restrict t.env ks acc).get i = if i ∈ ks ∧ (t.env.get i).isSome then t.env.get i else acc.get i := by
        intro ks
        induction ks with
        | nil => intro acc i; simp [restrict]
        | cons k ks ih =>
          intro acc i
          simp only [restrict]
          split
          · rename_i v hv
            rw [ih, Tri.get_set]
            by_cases e : k = i
            · subst e; simp [hv]
            · have : ¬ i = k := fun h => e h.symm
              simp [e, this]
          · rename_i hv
            rw [ih]
            by_cases e : k = i
            · subst e; simp [hv]
            · have : ¬ i = k := fun h => e h.symm
              simp [this]
      refine ⟨{ t with env := restrict t.env l .leaf, kn := kn }, ?_, ⟨?_, fun i v hv => hs.K i v (lk_pickL _ _ _ _ hv), rfl, hs.h⟩, ?_⟩
      · refine cond_some_of ?_
        rw [show Nat.ble kn t.kn = true by rw [hs.kn]; exact hb.1, Bool.true_and, List.all_eq_true]
        intro i hi
        have h1 := List.all_eq_true.1 hb.2 i hi
        split at h1
        · rename_i v hv
          rw [key, if_pos ⟨hi, by rw [hs.env _ _ hv]; rfl⟩, hs.env _ _ hv]
          exact h1
        · cases h1
      · intro i v hv
        have hm : ∀ (ks : List Tmp), lk (pickL s.env ks) i = some v → i ∈ ks := by
          intro ks
          induction ks with
          | nil => intro h; cases h
          | cons k ks ih =>
            intro h
            simp only [pickL] at h
            split at h
            · rw [lk_cons] at h
              by_cases e : k = i
              · simp [e]
              · rw [if_neg e] at h; simp [ih h]
            · simp [ih h]
        have h2 := hs.env _ _ (lk_pickL _ _ _ _ hv)
        show (restrict t.env l .leaf).get i = some v
        rw [key, if_pos ⟨hm _ hv, by rw [h2]; rfl⟩]
        exact h2
      · rfl

theorem low_of_keep {B : Nat} {h h' : AHeap} (k : KeepB B h h') (hl : h.low ≤ h.next) : h'.low ≤ h'.next := Nat.le_trans k.low (Nat.le_trans hl k.next)

theorem wpS_ok (hF : CallKeep F) {f : FuncId} {fn : Func} {c0 : Code} (hfn : (P ()).funcs[f]? = some fn) (hc0 : fn.body = some c0) : ∀ (c : Code) (s : SS) (t : St) (Q : Exit → SS → Prop), (∀ b ∈ loopsOf c, b ∈ loopsOf c0) → Le s t → t.h.low ≤ t.h.next → wpS P H (atomsOf (P ()) H F) V f fn.ntmps c s Q → ∃ x t' s', Run (P ()) H F f fn.ntmps c t x t' ∧ Le s' t' ∧ Q x s' := by
  have hrk : ∀ {c : Code} {t t' : St} {x : Exit}, Run (P ()) H F f fn.ntmps c t x t' → t.h.low ≤ t.h.next → t'.h.low ≤ t'.h.next := by
    rintro c t t' x ⟨n, hn⟩ hl
    exact low_of_keep ((execA_keep hF n).1 _ _ _ _ _ _ hn) hl
  intro c
  induction c with
  | skip => intro s t Q hin hs hl h; exact ⟨_, _, _, Run.skip, hs, h⟩
  | ret => intro s t Q hin hs hl h; exact ⟨_, _, _, Run.ret, hs, h⟩
  | exit id => intro s t Q hin hs hl h; exact ⟨_, _, _, Run.exit, hs.pruned _, h⟩
  | seq a b iha ihb =>
    intro s t Q hin hs hl h
    simp only [wpS] at h
    obtain ⟨x, t1, s1, h1, hs1, h⟩ := iha _ _ _ (fun b hb => hin b (by simp only [loopsOf, List.mem_append]; exact .inl hb)) hs hl h
    unfold seqK at h
    split at h
    · obtain ⟨y, t2, s2, h2, hs2, h⟩ := ihb _ _ _ (fun b hb => hin b (by simp only [loopsOf, List.mem_append]; exact .inr hb)) hs1 (hrk h1 hl) h
      exact ⟨_, _, _, Run.seq h1 h2, hs2, h⟩
    · rename_i hx
      exact ⟨_, _, _, Run.seqOut h1 hx, hs1, h⟩
  | cond x a b iha ihb =>
    intro s t Q hin hs hl h
    simp only [wpS] at h
    split at h
    · rename_i v hv
      rcases forkB h with ⟨rfl, h1⟩ | ⟨rfl, h1⟩
      · obtain ⟨y, t2, s2, h2, hs2, h3⟩ := iha _ _ _ (fun b hb => hin b (by simp only [loopsOf, List.mem_append]; exact .inl hb)) hs hl h1
        exact ⟨_, _, _, Run.cond (hs.ev hv) h2, hs2, h3⟩
      · obtain ⟨y, t2, s2, h2, hs2, h3⟩ := ihb _ _ _ (fun b hb => hin b (by simp only [loopsOf, List.mem_append]; exact .inr hb)) hs hl h1
        exact ⟨_, _, _, Run.cond (hs.ev hv) h2, hs2, h3⟩
    · exact h.elim
  | block id b ihb =>
    intro s t Q hin hs hl h
    simp only [wpS] at h
    obtain ⟨x, t1, s1, h1, hs1, h⟩ := ihb _ _ _ (fun b hb => hin b hb) hs hl h
    have h0 := Run.block (id := id) h1
    cases x with
    | exit id' =>
      simp only [blockK] at h h0
      cases hb : Nat.beq id' id with
      | true => rw [hb] at h h0; exact ⟨_, _, s1, h0, hs1, h⟩
      | false => rw [hb] at h h0; exact ⟨_, _, s1, h0, hs1, h⟩
    | normal => exact ⟨_, _, s1, h0, hs1, h⟩
    | ret => exact ⟨_, _, s1, h0, hs1, h⟩
    | goto l => exact ⟨_, _, s1, h0, hs1, h⟩
    | panic => exact ⟨_, _, s1, h0, hs1, h⟩
    | outgrown => exact ⟨_, _, s1, h0, hs1, h⟩
  | loop b ihb =>
    intro s t Q hin hs hl h
    simp only [wpS] at h
    split at h
    · rename_i s0 hn
      obtain ⟨t0, hn0, hs0, eh⟩ := normS_ok hs hn
      have hw : WH (P ()) H F f fn.ntmps b s.kn (Sim.pruned s0 (V.loop f (keyOf b))) Q := h fn c0 b hfn hc0 (hin b (by simp [loopsOf])) rfl
      obtain ⟨x, t', s', ⟨n, hh⟩, hs', hQ⟩ := hw.ex t0 (hs0.pruned _) (by rw [eh]; exact hl)
      refine ⟨x, t', s', Run.loop ⟨n + 1, ?_⟩, hs', hQ⟩
      show loopS H (execA (P ()) H F n) f fn.ntmps b t.kn t = _
      unfold loopS
      rw [hs.kn, hn0]
      exact hh
    · exact h.elim
  | region id ops draw =>
    intro s t Q hin hs hl h
    simp only [wpS] at h
    cases draw with
    | true =>
      simp only [cond_true] at h
      obtain ⟨n, t', s', hd, hs', hQ⟩ := wpDraw_ok hF (hs.pruned _) hl h
      refine ⟨_, t', s', ⟨n + 1, ?_⟩, hs', hQ⟩
      show runS (P ()) H (execA (P ()) H F n) f fn.ntmps (.region id ops true) t = _
      unfold runS
      simp only [cond_true, hd]
    | false =>
      simp only [cond_false] at h
      obtain ⟨n, t', s', hd, hs', hQ⟩ := wpOps_ok _ _ _ _ (hs.pruned _) h
      refine ⟨_, t', s', ⟨n + 1, ?_⟩, hs', hQ⟩
      show runS (P ()) H (execA (P ()) H F n) f fn.ntmps (.region id ops false) t = _
      unfold runS
      simp only [cond_false, hd]
  | rangeFunc => intro s t Q hin hs hl h; exact h.elim
  | scope => intro s t Q hin hs hl h; exact h.elim
  | label => intro s t Q hin hs hl h; exact h.elim
  | goto => intro s t Q hin hs hl h; exact h.elim
  | refuse => intro s t Q hin hs hl h; exact h.elim

/-- A round of a loop. -/
theorem WH.round (hF : CallKeep F) {f : FuncId} {fn : Func} {c0 : Code} (hfn : (P ()).funcs[f]? = some fn) (hc0 : fn.body = some c0) {b : Code} (hb : b ∈ loopsOf c0) (hsub : ∀ b' ∈ loopsOf b, b' ∈ loopsOf c0) {kn : Nat} {s : SS} {Q : Exit → SS → Prop} (h : wpRound P H (atomsOf (P ()) H F) V f fn.ntmps b kn s Q) : WH (P ()) H F f fn.ntmps b kn s Q := by
  refine ⟨fun t hs hl => ?_⟩
  unfold wpRound at h
  obtain ⟨x, t1, s1, ⟨n1, h1⟩, hs1, h⟩ := wpS_ok hF hfn hc0 _ _ _ _ hsub hs hl h
  unfold seqK at h
  have hl1 : t1.h.low ≤ t1.h.next := low_of_keep ((execA_keep hF n1).1 _ _ _ _ _ _ h1) hl
  split at h
  · split at h
    · rename_i s2 hn
      obtain ⟨t0, hn0, hs0, eh⟩ := normS_ok hs1 hn
      have hw : WH (P ()) H F f fn.ntmps b kn (Sim.pruned s2 (V.loop f (keyOf b))) Q := h fn c0 b hfn hc0 hb rfl
      obtain ⟨y, t', s', ⟨n2, hh⟩, hs', hQ⟩ := hw.ex t0 (hs0.pruned _) (by rw [eh]; exact hl1)
      refine ⟨y, t', s', ⟨max n1 (n2 + 1), ?_⟩, hs', hQ⟩
      rw [(execA_le (Nat.le_max_left n1 (n2 + 1))).run _ _ _ _ _ h1]
      simp only []
      refine (execA_le (Nat.le_max_right n1 (n2 + 1))).loop _ _ _ _ _ _ ?_
      show loopS H (execA (P ()) H F n2) f fn.ntmps b kn t1 = _
      unfold loopS
      rw [hn0]
      exact hh
    · exact h.elim
  · rename_i hx
    refine ⟨x, t1, s1, ⟨n1, ?_⟩, hs1, h⟩
    rw [h1]
    cases x <;> first | rfl | exact absurd rfl hx

theorem loopsOf_trans : ∀ (c b b' : Code), b ∈ loopsOf c → b' ∈ loopsOf b → b' ∈ loopsOf c := by
  intro c
  induction c with
  | seq a b iha ihb =>
    intro x y hx hy
    simp only [loopsOf, List.mem_append] at hx ⊢
    exact hx.imp (fun h => iha _ _ h hy) (fun h => ihb _ _ h hy)
  | cond _ a b iha ihb =>
    intro x y hx hy
    simp only [loopsOf, List.mem_append] at hx ⊢
    exact hx.imp (fun h => iha _ _ h hy) (fun h => ihb _ _ h hy)
  | block _ b ihb => intro x y hx hy; exact ihb _ _ hx hy
  | loop b ihb =>
    intro x y hx hy
    simp only [loopsOf, List.mem_cons] at hx ⊢
    rcases hx with rfl | hx
    · exact .inr hy
    · exact .inr (ihb _ _ hx hy)
  | _ => intro x y hx hy; simp [loopsOf] at hx

theorem WH.weaken {f : FuncId} {nt : Nat} {b : Code} {kn : Nat} {s s1 : SS} {Q : Exit → SS → Prop} (h : WH (P ()) H F f nt b kn s Q) (hw : ∀ t, Le s1 t → Le s t) : WH (P ()) H F f nt b kn s1 Q :=
  ⟨fun t hs hl => h.ex t (hw t hs) hl⟩

theorem WH.mono {f : FuncId} {nt : Nat} {b : Code} {kn : Nat} {s : SS} {Q Q' : Exit → SS → Prop} (h : WH (P ()) H F f nt b kn s Q) (hq : ∀ x s', Q x s' → Q' x s') : WH (P ()) H F f nt b kn s Q' :=
  ⟨fun t hs hl => let ⟨x, t', s', a, b, c⟩ := h.ex t hs hl; ⟨x, t', s', a, b, hq _ _ c⟩⟩

theorem WC.mono {g : FuncId} {args : List Value} {h : AHeap} {Q Q' : Value → AHeap → Prop} (w : WC (P ()) H F g args h Q) (hq : ∀ v h', Q v h' → Q' v h') : WC (P ()) H F g args h Q' :=
  ⟨let ⟨v, h', a, b⟩ := w.ex; ⟨v, h', a, hq _ _ b⟩⟩

theorem wpRes_ok {s : SS} {t : St} (hs : Le s t) : ∀ (r : List ResultVar) (C : List Value → Prop), wpRes P (atomsOf (P ()) H F) s r C → ∃ l, resA (P ()) t r = some l ∧ C l
  | [], C, h => ⟨[], rfl, h⟩
  | .tmp i :: r, C, h => by
    simp only [wpRes] at h
    simp only [resA]
    split at h
    · rename_i v hv
      obtain ⟨l, hl, hC⟩ := wpRes_ok hs r _ h
      simp only [hs.env _ _ hv, hl]
      exact ⟨_, rfl, hC⟩
    · exact h.elim
  | .cell a ty :: r, C, h => by
    simp only [wpRes] at h
    simp only [resA]
    split at h
    · rename_i x hx
      obtain ⟨v, hv, h⟩ := wpLoad_ok XOK.id (t := t) hs h
      obtain ⟨l, hl, hC⟩ := wpRes_ok hs r _ h
      simp only [hs.env _ _ hx, hv, hl]
      exact ⟨_, rfl, hC⟩
    · exact h.elim

theorem argsL_E : ∀ (l : List Value) (i : Nat) (acc : List (Nat × Value)), argsEnv l i (E acc) = E (argsL l i acc)
  | [], i, acc => rfl
  | v :: r, i, acc => by
    simp only [argsEnv, argsL]
    exact argsL_E r (i + 1) ((i, v) :: acc)

theorem Le_refl (s : SS) : Le s ⟨E s.env, s.kn, E s.K, s.h⟩ := ⟨fun i v h => by rw [E_get]; exact h, fun i v h => by rw [E_get]; exact h, rfl, rfl⟩

/-- A function, by its code. -/
theorem WC.body (hF : CallKeep F) {g : FuncId} {fn : Func} {args : List Value} {h : AHeap} {Q : Value → AHeap → Prop} (hf : (P ()).funcs[g]? = some fn) (hn : F g args h = none) (hl : h.low ≤ h.next) (hw : wpFun P H (atomsOf (P ()) H F) V g fn args h Q) : WC (P ()) H F g args h Q := by
  unfold wpFun at hw
  split at hw
  · rename_i c hb
    obtain ⟨x, t', s', hr, hs', hQ⟩ := wpS_ok hF hf hb c _ _ _ (fun _ h => h) (Le_refl ⟨argsL args 0 [], 0, [], h⟩) hl hw
    have hr' : Run (P ()) H F g fn.ntmps c { env := argsEnv args 0 .leaf, kn := 0, K := .leaf, h := h } x t' := by
      have e := argsL_E args 0 []
      simp only [E] at e
      rw [e]
      exact hr
    have fin : ∀ (C : List Value → Prop), (∀ l, C l → l.all noLoc = true ∧ Q (resultA l) s'.h) → wpRes P (atomsOf (P ()) H F) s' fn.results.toList C → ∃ v h', endA (P ()) fn t' = some (v, h') ∧ Q v h' := by
      intro C hC hres
      obtain ⟨l, hl2, hc⟩ := wpRes_ok hs' _ _ hres
      obtain ⟨h1, h2⟩ := hC l hc
      refine ⟨_, _, ?_, h2⟩
      unfold endA
      simp only [hl2, h1, cond_true, hs'.h]
    unfold endK at hQ
    split at hQ
    · obtain ⟨v, h', he, hq⟩ := fin _ (fun l hl => condP hl) hQ
      exact ⟨⟨v, h', Ret.body hn hf hb hr' (.inl rfl) he, hq⟩⟩
    · obtain ⟨v, h', he, hq⟩ := fin _ (fun l hl => condP hl) hQ
      exact ⟨⟨v, h', Ret.body hn hf hb hr' (.inr rfl) he, hq⟩⟩
    · exact hQ.elim
  · exact hw.elim

/-! ### In terms of 'atomsOf' -/

structure AOK (P : Unit → Program) (H : Hint) (F : Prims) (A : Atoms) : Prop where
  eq : A = atomsOf (P ()) H F
  keep : CallKeep F

theorem AOK.body {A : Atoms} (hA : AOK P H F A) (V : Live) {g : FuncId} {fn : Func} {args : List Value} {h : AHeap} {Q : Value → AHeap → Prop} (hf : (P ()).funcs[g]? = some fn) (hn : F g args h = none) (hl : h.low ≤ h.next) (hw : wpFun P H A V g fn args h Q) : A.call g args h Q := by
  have e := hA.eq
  subst e
  exact WC.body hA.keep hf hn hl hw

theorem AOK.round {A : Atoms} (hA : AOK P H F A) (V : Live) {f : FuncId} {fn : Func} (hfn : (P ()).funcs[f]? = some fn) {key kn : Nat} {s : SS} {Q : Exit → SS → Prop} (hw : wpHead P H A V f fn key kn s Q) : A.head f key kn s Q := by
  have e := hA.eq
  subst e
  intro fn' c b h1 h2 h3 h4
  rw [hfn] at h1
  obtain rfl := Option.some.inj h1
  unfold wpHead at hw
  rw [h2] at hw
  simp only [] at hw
  have hm : b ∈ (loopsOf c).filter (fun b => Nat.beq (keyOf b) key) := by
    rw [List.mem_filter]
    exact ⟨h3, by subst h4; simp⟩
  split at hw
  · rename_i b' hb'
    rw [hb'] at hm
    simp only [List.mem_singleton] at hm
    subst hm
    exact WH.round hA.keep hfn h2 h3 (fun b' hb' => loopsOf_trans _ _ _ h3 hb') hw
  · exact hw.elim

theorem AOK.prim {A : Atoms} (hA : AOK P H F A) {g : FuncId} {args : List Value} {h h' : AHeap} {v : Value} {Q : Value → AHeap → Prop} (hp : F g args h = some (v, h')) (hq : Q v h') : A.call g args h Q := by
  have e := hA.eq
  subst e
  exact ⟨⟨v, h', ⟨1, by simp only [execA, callS, hp]⟩, hq⟩⟩

theorem AOK.mono {A : Atoms} (hA : AOK P H F A) {g : FuncId} {args : List Value} {h : AHeap} {Q Q' : Value → AHeap → Prop} (w : A.call g args h Q) (hq : ∀ v h', Q v h' → Q' v h') : A.call g args h Q' := by
  have e := hA.eq
  subst e
  exact WC.mono w hq

theorem AOK.headMono {A : Atoms} (hA : AOK P H F A) {f : FuncId} {key kn : Nat} {s : SS} {Q Q' : Exit → SS → Prop} (w : A.head f key kn s Q) (hq : ∀ x s', Q x s' → Q' x s') : A.head f key kn s Q' := by
  have e := hA.eq
  subst e
  exact fun fn c b h1 h2 h3 h4 => (w fn c b h1 h2 h3 h4).mono hq

end Go.Sim
