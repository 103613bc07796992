/-
  A REGION THAT DRAWS ITS ORDER (4): what holds goes on holding when one more operation comes up.
-/
import Derived.Test.YtlpnmdknlfmjaaaSimDraw3
namespace Go.Sim
set_option linter.unusedSimpArgs false

theorem evOK_of {J : Inj} {s : St} {a : Act} {l : List Operand} (h : ∀ t v, Operand.tmp t ∈ l → s.env.get t = some v → VR J v (a.tmps.getD t undef)) : EvOK J s a l := by
  intro x v hx he
  have hE : ER J (St0 s.h) a := fun t v h => by simp [St0, Tri.get] at h
  cases x with
  | tmp t => exact h t v hx he
  | const c => exact hE.eval (x := .const c) he
  | global g => exact hE.eval (x := .global g) he
  | func g => exact hE.eval (x := .func g) he

theorem looks_op {ops : Array Oper} {o : Oper} {t : Tmp} (h : Operand.tmp t ∈ o.op.operands.toList) : t ∈ o.looksAt ops := by
  unfold Oper.looksAt
  rw [List.mem_append]
  left
  rw [List.mem_filterMap]
  exact ⟨.tmp t, h, rfl⟩
theorem looks_guard {ops : Array Oper} {o : Oper} {j : Nat} {want : Bool} {d : Tmp} (hg : o.guard = some (j, want)) (hd : (ops[j]?).bind (·.dst) = some d) : d ∈ o.looksAt ops := by
  unfold Oper.looksAt
  rw [List.mem_append]
  right
  rw [hg]
  simp only [hd]
  simp

section
variable {P : Program} {H : Hint} {call : CallT} {f : FuncId} {nt : Nat} {ops : Array Oper} {base kbase : Nat} {l : List Nat} {S : Nat → St} {V : Nat → Value} {X : Nat → FP} {W : Nat → Bool}
variable {J0 : Inj} {s0 : St} {w0 : World} {a0 : Act} {E : Nat → Prop} {i p : Nat} {o : Oper} {a : Act} {w : World} {J : Inj} {s2 : St}

theorem Inv.envStep (T : Tr P H call f nt ops base kbase l S V X W) (U : Up ops base l X W E i p o) (I : Inv ops base kbase l S X W J0 s0 w0 a0 E a w J s2)
    (hs : StepD P H call f nt ops base kbase i o (S i) (V i) (X i) (W i) (S (i + 1))) (hn : nt ≤ a.tmps.size) {J' : Inj} {c : Value} (hg : ∀ id L, J.g id = some L → J'.g id = some L) (hl : ∀ t L, J.l t = some L → J'.l t = some L) (hc : VR J' (V i) c)
    (hdn : ∀ d, o.dst = some d → d < nt) :
    ∀ t v k, k ≤ ops.size → (∀ (j q : Nat) (o' : Oper), l[j]? = some q → ops[q]? = some o' → o'.dst = some t → ((E q ∨ q = p) ↔ j < k)) → (S k).env.get t = some v → t < (a.put o.dst c).tmps.size ∧ VR J' v ((a.put o.dst c).tmps.getD t undef) := by
  intro t v k hk h hv
  by_cases hd : o.dst = some t
  · have hik : i < k := (h i p o U.hi U.ho hd).1 (.inr rfl)
    have hst := T.stableE (t := t) (k - (i + 1)) (i + 1) (by omega) (fun j q o' h1 h2 hj ho' hd' => by
      have e1 := U.next hj (by omega) (h j q o' hj ho' hd')
      have e2 := U.sideE (.inr hd) hj ho' hd'
      have := e2.1 (e1.2 (by omega))
      omega)
    rw [show i + 1 + (k - (i + 1)) = k by omega] at hst
    have e := (hs.sum T.keep).env t
    rw [if_pos hd] at e
    rw [hst, e] at hv
    obtain rfl := Option.some.inj hv
    have hlt : t < a.tmps.size := Nat.lt_of_lt_of_le (hdn t hd) hn
    rw [put_size]
    refine ⟨hlt, ?_⟩
    rw [hd]
    have : (a.put (some t) c).tmps.getD t undef = c := by simp [Act.put, hlt]
    rw [this]; exact hc
  · obtain ⟨h1, h2⟩ := I.env t v k hk (fun j q o' hj ho' hd' => U.next hj (by rintro rfl; rw [U.hi] at hj; obtain rfl := Option.some.inj hj; rw [U.ho] at ho'; obtain rfl := Option.some.inj ho'; exact hd hd') (h j q o' hj ho' hd')) hv
    rw [put_size]
    refine ⟨h1, ?_⟩
    have : (a.put o.dst c).tmps.getD t undef = a.tmps.getD t undef := by
      cases hdd : o.dst with
      | none => rfl
      | some d => simp [Act.put, Array.getElem?_setIfInBounds_ne (show d ≠ t from fun e => hd (by rw [hdd, e]))]
    rw [this]; exact h2.mono hg hl

theorem StepD.dstLt {i : Nat} {o : Oper} {s s' : St} {v : Value} {x : FP} {wr : Bool} (h : StepD P H call f nt ops base kbase i o s v x wr s') : ∀ d, o.dst = some d → d < nt := by
  intro d hd
  rcases h with ⟨_, s1, _, h2, _, _⟩ | ⟨_, h2, _, _, _⟩
  · rcases putA_spec h2 with ⟨q, _⟩ | ⟨d', q, r, _⟩
    · rw [q] at hd; cases hd
    · rw [q] at hd; obtain rfl := Option.some.inj hd; exact r
  · rcases putA_spec h2 with ⟨q, _⟩ | ⟨d', q, r, _⟩
    · rw [q] at hd; cases hd
    · rw [q] at hd; obtain rfl := Option.some.inj hd; exact r

theorem Inv.step (hcall : CallOK P call) (T : Tr P H call f nt ops base kbase l S V X W) (U : Up ops base l X W E i p o) (I : Inv ops base kbase l S X W J0 s0 w0 a0 E a w J s2) (hn0 : nt ≤ a0.tmps.size) {Q : Exit → Act → World → Prop} {K : Act → World → Prop}
    (hK : ∀ a' w' J' s2', Inv ops base kbase l S X W J0 s0 w0 a0 (fun q => E q ∨ q = p) a' w' J' s2' → K a' w') : wpOp P ops Q p K a w := by
  obtain ⟨o', ho', hs⟩ := T.step i p U.hi
  rw [U.ho] at ho'
  obtain rfl := Option.some.inj ho'
  have hn : nt ≤ a.tmps.size := by rw [I.size]; exact hn0
  have hile : i ≤ ops.size := Nat.le_of_lt U.lt
  have hev : ∀ t v, t ∈ o.looksAt ops → (S i).env.get t = some v → t < a.tmps.size ∧ VR J v (a.tmps.getD t undef) :=
    fun t v ht hv => I.env t v i hile (fun j q o' hj ho' hd => U.sideE (.inl ht) hj ho' hd) hv
  have hEv : ∀ s3 : St, s3.env = (S i).env → EvOK J s3 a o.op.operands.toList := fun s3 he => evOK_of (fun t v ht hv => (hev t v (looks_op ht) (by rw [← he]; exact hv)).2)
  have hGu : GuOK J (S i) a ops o := fun j want d v hg hd hv => hev d v (looks_guard hg hd) hv
  have hJg : J.g (base + i) = none := by
    cases hx : J.g (base + i) with
    | none => rfl
    | some L => exact absurd (I.domg i p U.hi (by rw [hx]; rfl)) U.hp
  have hJl : J.l (kbase + i) = none := by
    cases hx : J.l (kbase + i) with
    | none => rfl
    | some L => exact absurd (I.doml i p U.hi (by rw [hx]; rfl)) U.hp
  have hlim := I.lim
  have hilt := U.lt
  have envStep := fun (J' : Inj) (c : Value) hg hl hc => I.envStep T U hs hn (J' := J') (c := c) hg hl hc hs.dstLt
  have hsum := hs.sum T.keep
  have hgetG := fun id => hs.getG T.keep (id := id)
  unfold wpOp
  rw [U.ho]
  simp only []
  rcases hs with ⟨hw, s1, h1, h2, hx, hwr⟩ | ⟨hw, h2, hv, hx, hwr⟩
  · rw [wantedA_sim hw hGu, if_pos rfl]
    left
    by_cases hA : X i = .all
    · -- at large
      obtain ⟨e1, e2, e3⟩ := oneD_all (by rw [fresh_fp, ← hx]; exact hA) h1
      have hnext : s2.h.next = (S i).h.next := I.next i hile (fun j q hj hq => U.sideN T hA hj hq)
      have hget : ∀ id L, J.g id = some L → s2.h.m.get id = (S i).h.m.get id := fun id L hL => I.g id L i hile hL (fun j q hj hm => U.sideA T hA (fun j q hj hid => I.domg j q hj (by rw [← hid, hL]; rfl)) hj hm)
      let s3 : St := { s2 with env := (S i).env, h := (S i).fresh.h }
      have h3 := e2 s3 rfl rfl
      have hR3 : HR J s3 w := I.good.hr.swap (s' := s3) (by show s2.h.next ≤ (S i).h.next; omega) (Nat.le_refl _) (fun id L hL => (hget id L hL).symm) (fun _ _ _ => rfl)
      have hS1 : (S (i + 1)).h.m = s1.h.m ∧ (S (i + 1)).h.next = s1.h.next ∧ (S (i + 1)).h.low = Nat.min (S i).h.low s1.h.low := by
        rw [putA_env h2]; exact ⟨rfl, rfl, rfl⟩
      refine oneD_goes hcall hR3 (hR3.newAtOK (by show base + i < (S i).h.next; omega) hJg (by show kbase + i < s2.kn; rw [I.kn]; omega) hJl) (hEv s3 rfl) h3 K Q ?_
      intro c w' J' hG hlm hv henv hAd hAl
      have hnewG : newG o.op (locOf H f o) = false := by
        cases hq : newG o.op (locOf H f o) with
        | false => rfl
        | true => rw [hx, fp_newG hq] at hA; cases hA
      have hnewL : newL o.op (locOf H f o) = false := by
        cases hq : newL o.op (locOf H f o) with
        | false => rfl
        | true => rw [hx, fp_newL hq] at hA; cases hA
      have hAd' : ∀ id L, J'.g id = some L → J.g id = some L ∨ (S i).h.next ≤ id := fun id L hL => (hAd id L hL).imp (fun q => q) (fun q => q.elim (fun q => by rw [hnewG] at q; cases q.1) (fun q => q))
      have hAl' : ∀ t L, J'.l t = some L → J.l t = some L := fun t L hL => (hAl t L hL).elim (fun q => q) (fun q => by rw [hnewL] at q; cases q.1)
      let s2' : St := { s2 with h := { s1.h with low := Nat.min s2.h.low s1.h.low } }
      have hG2 : Good J s2 w J' s2' w' := by
        have g1 := hG.lower (lo := Nat.min s2.h.low s1.h.low) (Nat.min_le_right _ _)
        have g2 := g1.leftLow (t := s2) (by rw [hnext]; rfl) (Nat.min_le_left _ _)
        exact g2.env s2.env
      refine hK (a.put o.dst c) w' J' s2' ?_
      refine { kn := I.kn, next := ?_, lim := ?_, g := ?_, lk := ?_, low := ?_, good := I.good.trans hG2, adds := ?_, domg := ?_, doml := ?_, env := envStep J' c hG.mono hlm hv, size := by rw [put_size]; exact I.size, defers := by rw [put_defers]; exact I.defers }
      · intro k hk h
        have hik : i < k := (h i p U.hi hA).1 (.inr rfl)
        have := T.stableN (k - (i + 1)) (i + 1) (by omega) (fun j q1 q2 hq => by
          obtain ⟨pj, oj, hj, _, _⟩ := T.at (i := j) (by omega)
          have := (U.sideN T hA hj hq).1 ((U.next hj (by omega) (h j pj hj hq)).2 (by omega))
          omega)
        rw [show i + 1 + (k - (i + 1)) = k by omega] at this
        rw [this]; exact hS1.2.1.symm
      · show base + ops.size ≤ s1.h.next
        rw [← hS1.2.1]; exact T.limAt (i + 1) (by omega)
      · intro id L k hk hL h
        show s1.h.m.get id = _
        by_cases hM : ModG S X W i id
        · have hik : i < k := (h i p U.hi hM).1 (.inr rfl)
          have := T.stableG (id := id) (k - (i + 1)) (i + 1) (by omega) (fun j q1 q2 hq => by
            obtain ⟨pj, oj, hj, _, _⟩ := T.at (i := j) (by omega)
            have := (U.sideG T hM hj hq).1 ((U.next hj (by omega) (h j pj hj hq)).2 (by omega))
            omega)
          rw [show i + 1 + (k - (i + 1)) = k by omega] at this
          rw [this, hS1.1]
        · have hlt : id < (S i).h.next := by
            rcases Nat.lt_or_ge id (S i).h.next with q | q
            · exact q
            · exact absurd (.inr (.inr ⟨hA, .inr q⟩)) hM
          have hL0 : J.g id = some L := (hAd' id L hL).resolve_right (by omega)
          rw [← hS1.1, hgetG id hM, ← hget id L hL0]
          exact I.g id L k hk hL0 (fun j q hj hq => U.next hj (by rintro rfl; exact hM hq) (h j q hj hq))
      · intro t L k hk hL h
        exact I.lk t L k hk (hAl' t L hL) (fun j q hj hq => U.next hj (by rintro rfl; rcases hq with ⟨q, _⟩ | q <;> rw [hA] at q <;> cases q) (h j q hj hq))
      · show _ ≤ Nat.min s2.h.low s1.h.low
        have q1 := T.lowAt (ops.size - (i + 1)) (i + 1) (by omega)
        rw [show i + 1 + (ops.size - (i + 1)) = ops.size by omega, hS1.2.2] at q1
        exact Nat.le_min.2 ⟨I.low, Nat.le_trans q1 (Nat.min_le_right _ _)⟩
      · intro id L hL
        rcases hAd' id L hL with q | q
        · exact I.adds id L q
        · right; show base ≤ id; have := T.limAt i hile; omega
      · intro j q hj hsome
        cases hq : J'.g (base + j) with
        | none => rw [hq] at hsome; cases hsome
        | some L =>
          obtain ⟨_, _, hjl⟩ := T.op hj
          rcases hAd' _ L hq with r | r
          · exact .inl (I.domg j q hj (by rw [r]; rfl))
          · have := T.limAt i hile; omega
      · intro j q hj hsome
        cases hq : J'.l (kbase + j) with
        | none => rw [hq] at hsome; cases hsome
        | some L => exact .inl (I.doml j q hj (by rw [hAl' _ L hq]; rfl))
    · -- a place of its own
      have hc : isCall o.op = none := by
        cases hc : isCall o.op with
        | none => rfl
        | some c => exact absurd (by rw [hx]; exact isCall_all hc) hA
      have h1' := h1
      unfold oneD at h1'
      rw [hc] at h1'
      obtain ⟨F, e1, e2, e3⟩ := opA_eff (by rw [fresh_fp, ← hx]; exact hA) h1'
      rw [fresh_fp, ← hx] at e2 e3
      let s3 : St := { s2 with env := (S i).env }
      have hR3 : HR J s3 w := I.good.hr.env _
      have hplace : ∀ lc b, X i = .block lc b → ∃ ad : Addr, ad.spot.isSome = lc ∧ ad.block = b ∧ ∃ L, J.at ad = some L := by
        intro lc b hb
        rw [hx] at hb
        obtain ⟨x, ad, hxm, hxe, q1, q2⟩ := fp_block hb
        have := hEv (S i) rfl x _ hxm hxe
        obtain ⟨L, hL, _⟩ := this.ptrL
        exact ⟨ad, q1, q2, L, hL⟩
      have h3 : oneD P H call f (base + i) (kbase + i) o s3 = some (V i, F.apply s3) := by
        unfold oneD
        rw [hc]
        refine e3 s3 rfl ?_ ?_ ?_
        · show s2.kn = (S i).kn
          rw [I.kn, T.knAt i hile]
        · intro b hb
          obtain ⟨ad, q1, q2, L, hL⟩ := hplace false b hb
          have hsp : ad.spot = none := by cases hq : ad.spot with | none => rfl | some y => rw [hq] at q1; cases q1
          simp only [Inj.at, hsp, q2] at hL
          exact I.g b L i hile hL (fun j q hj hm => U.sideR T hb hj hm)
        · intro t hb
          obtain ⟨ad, q1, q2, L, hL⟩ := hplace true t hb
          obtain ⟨y, hsp⟩ : ∃ y, ad.spot = some y := by cases hq : ad.spot with | none => rw [hq] at q1; cases q1 | some y => exact ⟨y, rfl⟩
          simp only [Inj.at, hsp, q2] at hL
          exact I.lk t L i hile hL (fun j q hj hm => U.sideRL T hb hj hm)
      have hFn : (F.apply s3).h.next = s2.h.next ∧ (F.apply s3).kn = s2.kn := by cases F <;> exact ⟨rfl, rfl⟩
      have hS1 : (S (i + 1)).h.m = s1.h.m ∧ (S (i + 1)).K = s1.K ∧ (S (i + 1)).h.low = Nat.min (S i).h.low s1.h.low := by
        rw [putA_env h2]; exact ⟨rfl, rfl, rfl⟩
      have hnoW : (∀ b blk lw, F ≠ .setG b blk lw) → (∀ t cs, F ≠ .setL t cs) → W i = false := by
        intro q1 q2
        cases F with
        | idle =>
          rw [hwr, e2.2, e1]
          show Nat.blt (S i).h.next (S i).h.next = false
          exact blt_false (Nat.le_refl _)
        | setG b blk lw => exact absurd rfl (q1 b blk lw)
        | setL t cs => exact absurd rfl (q2 t cs)
      have touchG : ∀ id, ModG S X W i id → ∃ blk lw, F = .setG id blk lw := by
        intro id hM
        rcases hM with ⟨q1, q2⟩ | q1 | ⟨q1, _⟩
        · cases F with
          | idle => rw [hnoW (fun _ _ _ h => by cases h) (fun _ _ h => by cases h)] at q2; cases q2
          | setG b blk lw =>
            rcases e2 with ⟨r, _⟩ | ⟨r, _⟩
            · rw [q1] at r; simp only [FP.block.injEq, true_and] at r; subst r; exact ⟨_, _, rfl⟩
            · rw [q1] at r; cases r
          | setL t cs =>
            rcases e2 with ⟨r, _⟩ | ⟨r, _⟩
            · rw [q1] at r; simp at r
            · rw [q1] at r; cases r
        · cases F with
          | idle => exact absurd q1 (e2.1 _ _)
          | setG b blk lw =>
            rcases e2 with ⟨r, _⟩ | ⟨r, _⟩
            · rw [q1] at r; cases r
            · rw [q1] at r; simp only [FP.new.injEq, true_and] at r; subst r; exact ⟨_, _, rfl⟩
          | setL t cs =>
            rcases e2 with ⟨r, _⟩ | ⟨r, _⟩
            · rw [q1] at r; cases r
            · rw [q1] at r; simp at r
        · exact absurd q1 hA
      have touchL : ∀ t, ModL X W i t → ∃ cs, F = .setL t cs := by
        intro t hM
        rcases hM with ⟨q1, q2⟩ | q1
        · cases F with
          | idle => rw [hnoW (fun _ _ _ h => by cases h) (fun _ _ h => by cases h)] at q2; cases q2
          | setG b blk lw =>
            rcases e2 with ⟨r, _⟩ | ⟨r, _⟩
            · rw [q1] at r; simp at r
            · rw [q1] at r; cases r
          | setL b cs =>
            rcases e2 with ⟨r, _⟩ | ⟨r, _⟩
            · rw [q1] at r; simp only [FP.block.injEq, true_and] at r; subst r; exact ⟨_, rfl⟩
            · rw [q1] at r; cases r
        · cases F with
          | idle => exact absurd q1 (e2.1 _ _)
          | setG b blk lw =>
            rcases e2 with ⟨r, _⟩ | ⟨r, _⟩
            · rw [q1] at r; cases r
            · rw [q1] at r; simp at r
          | setL b cs =>
            rcases e2 with ⟨r, _⟩ | ⟨r, _⟩
            · rw [q1] at r; cases r
            · rw [q1] at r; simp only [FP.new.injEq, true_and] at r; subst r; exact ⟨_, rfl⟩
      have modG : ∀ b blk lw, F = .setG b blk lw → ModG S X W i b := by
        intro b blk lw hF; subst hF
        rcases e2 with ⟨r, r2, _⟩ | ⟨r, _⟩
        · exact .inl ⟨r, by rw [hwr, r2]; rfl⟩
        · exact .inr (.inl r)
      have modL : ∀ t cs, F = .setL t cs → ModL X W i t := by
        intro t cs hF; subst hF
        rcases e2 with ⟨r, r2⟩ | ⟨r, _⟩
        · exact .inl ⟨r, by rw [hwr, r2]; rfl⟩
        · exact .inr r
      refine oneD_goes hcall hR3 (hR3.newAtOK (by show base + i < s2.h.next; omega) hJg (by show kbase + i < s2.kn; rw [I.kn]; omega) hJl) (hEv s3 rfl) h3 K Q ?_
      intro c w' J' hG hlm hv henv hAd hAl
      have hAd' : ∀ id L, J'.g id = some L → J.g id = some L ∨ (X i = .new false id ∧ id = base + i) := fun id L hL => by
        rcases hAd id L hL with q | ⟨q1, q2⟩ | q
        · exact .inl q
        · right; refine ⟨?_, q2⟩; rw [hx, fp_newG q1, q2]
        · have := hG.hr.gdom id L hL
          rw [hFn.1] at this
          have q' : s2.h.next ≤ id := q
          omega
      have hAl' : ∀ t L, J'.l t = some L → J.l t = some L ∨ (X i = .new true t ∧ t = kbase + i) := fun t L hL => by
        rcases hAl t L hL with q | ⟨q1, q2⟩
        · exact .inl q
        · right; refine ⟨?_, q2⟩; rw [hx, fp_newL q1, q2]
      refine hK (a.put o.dst c) w' J' (F.apply s3) ?_
      refine { kn := by rw [hFn.2]; exact I.kn, next := ?_, lim := by rw [hFn.1]; exact I.lim, g := ?_, lk := ?_, low := ?_, good := (I.good.env _).trans hG, adds := ?_, domg := ?_, doml := ?_, env := envStep J' c hG.mono hlm hv, size := by rw [put_size]; exact I.size, defers := by rw [put_defers]; exact I.defers }
      · intro k hk h
        rw [hFn.1]
        exact I.next k hk (fun j q hj hq => U.next hj (by rintro rfl; exact hA hq) (h j q hj hq))
      · intro id L k hk hL h
        by_cases hM : ModG S X W i id
        · obtain ⟨blk, lw, hF⟩ := touchG id hM
          have hik : i < k := (h i p U.hi hM).1 (.inr rfl)
          have := T.stableG (id := id) (k - (i + 1)) (i + 1) (by omega) (fun j q1 q2 hq => by
            obtain ⟨pj, oj, hj, _, _⟩ := T.at (i := j) (by omega)
            have := (U.sideG T hM hj hq).1 ((U.next hj (by omega) (h j pj hj hq)).2 (by omega))
            omega)
          rw [show i + 1 + (k - (i + 1)) = k by omega] at this
          rw [this, hS1.1, e1, hF]
          simp only [Eff.apply, Tri.get_set_eq]
        · have hL0 : J.g id = some L := (hAd' id L hL).resolve_right (fun q => hM (.inr (.inl q.1)))
          have e : (F.apply s3).h.m.get id = s2.h.m.get id := by
            cases hF : F with
            | idle => rfl
            | setL t cs => rfl
            | setG b blk lw =>
              have hne : b ≠ id := by rintro rfl; exact hM (modG _ _ _ hF)
              simp only [Eff.apply]
              exact Tri.get_set_ne _ _ hne
          rw [e]
          exact I.g id L k hk hL0 (fun j q hj hq => U.next hj (by rintro rfl; exact hM hq) (h j q hj hq))
      · intro t L k hk hL h
        by_cases hM : ModL X W i t
        · obtain ⟨cs, hF⟩ := touchL t hM
          have hik : i < k := (h i p U.hi hM).1 (.inr rfl)
          have := T.stableL (t := t) (k - (i + 1)) (i + 1) (by omega) (fun j q1 q2 hq => by
            obtain ⟨pj, oj, hj, _, _⟩ := T.at (i := j) (by omega)
            have := (U.sideL T hM hj hq).1 ((U.next hj (by omega) (h j pj hj hq)).2 (by omega))
            omega)
          rw [show i + 1 + (k - (i + 1)) = k by omega] at this
          rw [this, hS1.2.1, e1, hF]
          simp only [Eff.apply, Tri.get_set_eq]
        · have hL0 : J.l t = some L := (hAl' t L hL).resolve_right (fun q => hM (.inr q.1))
          have e : (F.apply s3).K.get t = s2.K.get t := by
            cases hF : F with
            | idle => rfl
            | setG b blk lw => rfl
            | setL b cs =>
              have hne : b ≠ t := by rintro rfl; exact hM (modL _ _ hF)
              simp only [Eff.apply]
              exact Tri.get_set_ne _ _ hne
          rw [e]
          exact I.lk t L k hk hL0 (fun j q hj hq => U.next hj (by rintro rfl; exact hM hq) (h j q hj hq))
      · have q1 := T.lowAt (ops.size - (i + 1)) (i + 1) (by omega)
        rw [show i + 1 + (ops.size - (i + 1)) = ops.size by omega, hS1.2.2] at q1
        have q2 := Nat.le_trans q1 (Nat.min_le_right _ _)
        rw [e1] at q2
        cases hF : F with
        | idle => exact I.low
        | setL t cs => exact I.low
        | setG b blk lw =>
          rw [hF] at q2
          simp only [Eff.apply] at q2 ⊢
          cases lw with
          | false => exact I.low
          | true => exact Nat.le_min.2 ⟨I.low, Nat.le_trans q2 (Nat.min_le_right _ _)⟩
      · intro id L hL
        rcases hAd' id L hL with q | q
        · exact I.adds id L q
        · right; show base ≤ id; omega
      · intro j q hj hsome
        cases hq : J'.g (base + j) with
        | none => rw [hq] at hsome; cases hsome
        | some L =>
          rcases hAd' _ L hq with r | r
          · exact .inl (I.domg j q hj (by rw [r]; rfl))
          · have : j = i := by omega
            subst this
            rw [U.hi] at hj
            exact .inr (Option.some.inj hj).symm
      · intro j q hj hsome
        cases hq : J'.l (kbase + j) with
        | none => rw [hq] at hsome; cases hsome
        | some L =>
          rcases hAl' _ L hq with r | r
          · exact .inl (I.doml j q hj (by rw [r]; rfl))
          · have : j = i := by omega
            subst this
            rw [U.hi] at hj
            exact .inr (Option.some.inj hj).symm
  · rw [wantedA_sim hw hGu, if_neg (by simp)]
    refine hK _ _ J s2 ?_
    have hne : ∀ (j : Nat), X j ≠ .none → j ≠ i := fun j h e => h (by rw [e, hx])
    exact { kn := I.kn
            next := fun k hk h => I.next k hk (fun j q hj hq => U.next hj (hne j (by rw [hq]; simp)) (h j q hj hq))
            lim := I.lim
            g := fun id L k hk hJ h => I.g id L k hk hJ (fun j q hj hm => U.next hj (hne j (by rcases hm with ⟨r, _⟩ | r | ⟨r, _⟩ <;> rw [r] <;> simp)) (h j q hj hm))
            lk := fun t L k hk hJ h => I.lk t L k hk hJ (fun j q hj hm => U.next hj (hne j (by rcases hm with ⟨r, _⟩ | r <;> rw [r] <;> simp)) (h j q hj hm))
            low := I.low, good := I.good, adds := I.adds
            domg := fun j q hj h => .inl (I.domg j q hj h)
            doml := fun j q hj h => .inl (I.doml j q hj h)
            env := envStep J undef (fun _ _ h => h) (fun _ _ h => h) (by rw [hv]; exact .glob _ _ (VG.of_flat rfl))
            size := by rw [put_size]; exact I.size
            defers := by rw [put_defers]; exact I.defers }
end
end Go.Sim
