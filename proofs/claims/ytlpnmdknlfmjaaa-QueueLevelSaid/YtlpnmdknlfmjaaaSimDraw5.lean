/-
  A REGION THAT DRAWS ITS ORDER (5): the whole region.
-/
import Derived.Test.YtlpnmdknlfmjaaaSimDraw4
namespace Go.Sim
set_option linter.unusedSimpArgs false

theorem filter_lt {α : Type} {p p' : α → Bool} (hp : ∀ x, p' x = true → p x = true) : ∀ (l : List α) (x : α), x ∈ l → p x = true → p' x = false → (l.filter p').length < (l.filter p).length
  | y :: l, x, hx, h1, h2 => by
    have mono : ∀ l : List α, (l.filter p').length ≤ (l.filter p).length := by
      intro l
      induction l with
      | nil => simp
      | cons z l ih =>
        simp only [List.filter_cons]
        by_cases hz : p' z = true
        · simp [hz, hp z hz, ih]
        · by_cases hz' : p z = true
          · simp [hz, hz']; omega
          · simp [hz, hz', ih]
    rcases List.mem_cons.1 hx with rfl | hx'
    · simp only [List.filter_cons, h1, h2, if_true]
      have := mono l
      simp; omega
    · have ih := filter_lt hp l x hx' h1 h2
      simp only [List.filter_cons]
      by_cases hz : p' y = true
      · simp [hz, hp y hz, ih]
      · by_cases hz' : p y = true
        · simp [hz, hz']; omega
        · simp [hz, hz', ih]
  | [], x, hx, _, _ => by simp at hx

def Lst (listed : Array Bool) (q : Nat) : Prop := listed.getD q false = true

theorem Lst.set {listed : Array Bool} {p : Nat} (hp : p < listed.size) : Lst (listed.setIfInBounds p true) = fun q => Lst listed q ∨ q = p := by
  funext q
  apply propext
  unfold Lst
  by_cases e : q = p
  · subst e; simp [Array.getD, hp]
  · by_cases hq : q < listed.size
    · simp [Array.getD, hq, e, Array.getElem_setIfInBounds, Ne.symm e]
    · simp [Array.getD, hq, e]

section
variable {P : Program} {H : Hint} {call : CallT} {f : FuncId} {nt : Nat} {ops : Array Oper} {base kbase : Nat} {l : List Nat} {S : Nat → St} {V : Nat → Value} {X : Nat → FP} {W : Nat → Bool}
variable {J0 : Inj} {s0 : St} {w0 : World} {a0 : Act}

theorem Inv.any (hcall : CallOK P call) (T : Tr P H call f nt ops base kbase l S V X W) (hn0 : nt ≤ a0.tmps.size) (hall : ∀ q, q < ops.size → q ∈ l)
    (hback : ∀ (q : Nat) (o : Oper), ops[q]? = some o → ∀ e ∈ o.after.toList, Region.binds .any e = true → e.on < q) {Q : Exit → Act → World → Prop}
    (hQ : ∀ a w J s2, Inv ops base kbase l S X W J0 s0 w0 a0 (fun q => q < ops.size) a w J s2 → Q .normal a w) :
    ∀ (fuel : Nat) (listed : Array Bool) (a : Act) (w : World) (J : Inj) (s2 : St), listed.size = ops.size → ((List.range ops.size).filter (fun q => !listed.getD q false)).length ≤ fuel → Closed ops (Lst listed) →
      Inv ops base kbase l S X W J0 s0 w0 a0 (Lst listed) a w J s2 → wpAny P .any ops Q fuel listed a w := by
  have hend : ∀ (listed : Array Bool) (a : Act) (w : World) (J : Inj) (s2 : St), listed.size = ops.size → Region.ready .any ops listed = [] → Inv ops base kbase l S X W J0 s0 w0 a0 (Lst listed) a w J s2 → Q .normal a w := by
    intro listed a w J s2 hsz hr I
    have key : ∀ q, q < ops.size → Lst listed q := by
      intro q
      induction q using Nat.strongRecOn with
      | _ q ih =>
        intro hq
        by_cases hl : Lst listed q
        · exact hl
        · exfalso
          have hmem : q ∈ Region.ready .any ops listed := by
            unfold Region.ready
            rw [List.mem_filter]
            refine ⟨List.mem_range.2 hq, ?_⟩
            have hq' : q < listed.size := by omega
            have h1 : listed.getD q true = false := by
              unfold Lst at hl
              simp only [Array.getD, hq', dif_pos] at hl ⊢
              simpa using hl
            simp only [h1, Bool.not_false, Bool.true_and, hq, Array.getElem?_eq_getElem, Option.map_some, Option.getD_some]
            rw [Array.all_eq_true']
            intro e he
            by_cases hb : Region.binds .any e = true
            · have hlt := hback q ops[q] (by simp [hq]) e (by simpa using he) hb
              have := ih e.on hlt (by omega)
              unfold Lst at this
              simp only [this, Bool.or_true]
            · simp [hb]
          rw [hr] at hmem
          cases hmem
    have hE : Lst listed = fun q => q < ops.size := by
      funext q
      apply propext
      refine ⟨fun h => ?_, key q⟩
      unfold Lst at h
      by_cases hq : q < listed.size
      · omega
      · simp [Array.getD, hq] at h
    rw [hE] at I
    exact hQ a w J s2 I
  intro fuel
  induction fuel with
  | zero =>
    intro listed a w J s2 hsz hc hcl I
    have hr : Region.ready .any ops listed = [] := by
      cases hx : Region.ready .any ops listed with
      | nil => rfl
      | cons q r =>
        exfalso
        have hmem : q ∈ Region.ready .any ops listed := by rw [hx]; simp
        unfold Region.ready at hmem
        rw [List.mem_filter] at hmem
        obtain ⟨h1, h2⟩ := hmem
        simp only [Bool.and_eq_true, Bool.not_eq_true'] at h2
        have hq := List.mem_range.1 h1
        have hq' : q < listed.size := by omega
        have : q ∈ (List.range ops.size).filter (fun q => !listed.getD q false) := by
          rw [List.mem_filter]
          refine ⟨h1, ?_⟩
          have := h2.1
          simp only [Array.getD, hq', dif_pos] at this ⊢
          simp only [this, Bool.not_false]
        rw [List.length_eq_zero_iff.1 (Nat.le_zero.1 hc)] at this
        cases this
    exact ⟨hr, hend listed a w J s2 hsz hr I⟩
  | succ fuel ih =>
    intro listed a w J s2 hsz hc hcl I
    refine ⟨fun hr => hend listed a w J s2 hsz hr I, fun q hq => ?_⟩
    unfold Region.ready at hq
    rw [List.mem_filter] at hq
    obtain ⟨h1, h2⟩ := hq
    simp only [Bool.and_eq_true, Bool.not_eq_true'] at h2
    have hql := List.mem_range.1 h1
    have hq' : q < listed.size := by omega
    have hnl : listed.getD q false = false := by
      have := h2.1
      simp only [Array.getD, hq', dif_pos] at this ⊢
      exact this
    obtain ⟨i, hi, hie⟩ := List.getElem_of_mem (hall q hql)
    have hi' : l[i]? = some q := by rw [List.getElem?_eq_getElem hi, hie]
    have hset := Lst.set (p := q) hq'
    have hcl' : Closed ops (fun r => Lst listed r ∨ r = q) := by
      intro r o hr ho e he hb
      rcases hr with hr | rfl
      · exact .inl (hcl r o hr ho e he hb)
      · left
        have := h2.2
        rw [ho] at this
        simp only [Option.map_some, Option.getD_some] at this
        rw [Array.all_eq_true'] at this
        have := this e (by simpa using he)
        unfold Lst
        simpa [hb] using this
    obtain ⟨o, ho, _⟩ := T.op hi'
    have hnE : ¬ Lst listed q := by unfold Lst; rw [hnl]; simp
    refine I.step hcall T (T.up hi' ho hnE hcl hcl') hn0 ?_
    intro a' w' J' s2' I'
    rw [← hset] at I' hcl'
    refine ih (listed.setIfInBounds q true) a' w' J' s2' (by simp [hsz]) ?_ hcl' I'
    have : ((List.range ops.size).filter (fun r => !(listed.setIfInBounds q true).getD r false)).length < ((List.range ops.size).filter (fun r => !listed.getD r false)).length := by
      refine filter_lt (fun r hr => ?_) _ q h1 (by simp only [hnl, Bool.not_false]) ?_
      · by_cases hx : listed.getD r false = true
        · have : Lst (listed.setIfInBounds q true) r := by rw [hset]; exact .inl hx
          unfold Lst at this
          rw [this] at hr; cases hr
        · simpa using hx
      · have : Lst (listed.setIfInBounds q true) q := by rw [hset]; exact .inr rfl
        unfold Lst at this
        rw [this]; rfl
    omega
end

theorem Good.drewR {J J' : Inj} {s s' : St} {w w' : World} (h : Good J s w J' s' w') (n : Nat) : Good J s w J' s' { w' with drawn := n } :=
  { hr := { gdom := h.hr.gdom, gblk := h.hr.gblk, gcon := h.hr.gcon, ginj := h.hr.ginj, ldom := h.hr.ldom, lcon := h.hr.lcon, linj := h.hr.linj, sep := h.hr.sep }
    mono := h.mono, next := h.next, low := h.low, size := h.size, os := h.os, tape := h.tape, output := h.output, fresh := h.fresh, lfresh := h.lfresh, frame := h.frame }

theorem drawOK_spec {ops : Array Oper} {l : List Nat} (h : drawOK ops l = true) : l.length = ops.size ∧ (∀ q, q < ops.size → q ∈ l) ∧ (∀ (q : Nat) (o : Oper), ops[q]? = some o → ∀ e ∈ o.after.toList, Region.binds .any e = true → e.on < q) ∧
    (∀ (i k p q : Nat), i < k → l[i]? = some p → l[k]? = some q → p ≠ q ∧ ∀ o o', ops[p]? = some o → ops[q]? = some o' → shares ops o o' = true → prec (Region.before ops) p q = true) := by
  unfold drawOK at h
  simp only [Bool.and_eq_true] at h
  obtain ⟨⟨⟨h1, h2⟩, h3⟩, h4⟩ := h
  refine ⟨Nat.eq_of_beq_eq_true h1, fun q hq => ?_, fun q o ho e he hb => ?_, fun i k p q hik hp hq => ?_⟩
  · rw [List.all_eq_true] at h2
    have := h2 q (List.mem_range.2 hq)
    simpa using this
  · rw [List.all_eq_true] at h3
    have hlt : q < ops.size := (Array.getElem?_eq_some_iff.1 ho).1
    have hmem : (o, q) ∈ ops.toList.zipIdx := by
      rw [List.mem_zipIdx_iff_getElem?]
      simpa using ho
    have := h3 (o, q) hmem
    simp only [List.all_eq_true] at this
    have := this e he
    rw [hb] at this
    simp only [Bool.not_true, Bool.false_or] at this
    exact Nat.le_of_ble_eq_true this
  · have := pairs_spec l h4 i k p q hik hp hq
    simp only [Bool.and_eq_true, Bool.not_eq_true'] at this
    refine ⟨Nat.ne_of_beq_eq_false this.1, fun o o' ho ho' hs => ?_⟩
    have := this.2
    rw [ho, ho'] at this
    simpa [hs] using this

theorem drawA_goes {P : Program} {H : Hint} {call : CallT} {f : FuncId} {nt : Nat} {ops : Array Oper} {id : Nat} {J : Inj} {s s' : St} {w : World} {a : Act} (hm : P.follows .mixedOrders = true) (hcall : CallOK P call) (hkeep : CallKeep call)
    (h : drawA P H call f nt ops s = some s') (hR : HR J s w) (hE : ER J s a) (hn : nt ≤ a.tmps.size) :
    (Code.region id ops true).wp P (fun e a' w' => e = .normal ∧ Post J s w a s' a' w') a w := by
  unfold drawA at h
  cases hd : drawOK ops (orderOf ops) with
  | false => rw [hd] at h; simp at h
  | true =>
    rw [hd] at h
    simp only [cond_true] at h
    split at h
    · rename_i r fps hr
      cases hf : fpsOK ops (s.h.next + ops.size) fps with
      | false => rw [hf] at h; simp at h
      | true =>
        rw [hf] at h
        simp only [cond_true, Option.some.injEq] at h
        subst h
        obtain ⟨d1, d2, d3, d4⟩ := drawOK_spec hd
        obtain ⟨S, V, X, W, t1, t2, t3, t4⟩ := opsD_trace P H call f nt ops s.h.next s.kn (orderOf ops) 0 (s.keepNos ops.size) r fps hr
        simp only [Nat.zero_add] at t2 t4
        have T : Tr P H call f nt ops s.h.next s.kn (orderOf ops) S V X W :=
          { len := d1
            step := fun i p hp => let ⟨o, h1, _, h3⟩ := t4 i p hp; ⟨o, h1, h3⟩
            dist := fun i k p q hik hp hq => (d4 i k p q hik hp hq).1
            conf := fun i k p q o o' hik hp hq ho ho' hc => by
              rcases hc with hc | hc
              · exact (d4 i k p q hik hp hq).2 o o' ho ho' hc
              · obtain ⟨_, _, f1, _⟩ := t4 i p hp
                obtain ⟨_, _, f2, _⟩ := t4 k q hq
                have := pairs_spec fps hf i k _ _ hik f1 f2
                simpa [hc] using this
            lim := by rw [t1]; exact Nat.le_refl _
            kn := by rw [t1]; rfl
            keep := hkeep }
        rw [d1] at t2
        refine wp_region_any hm ?_
        refine Inv.any (J0 := J) (s0 := s) (w0 := w) (a0 := a) hcall T hn d2 d3 ?_ ops.size _ a _ J (s.keepNos ops.size) (by simp) ?_ ?_ ?_
        · intro a' w' J' s2 I
          refine ⟨rfl, J', ?_, ?_, I.size, I.defers, I.adds⟩
          · have hside : ∀ (j p : Nat), (orderOf ops)[j]? = some p → (p < ops.size ↔ j < ops.size) := fun j p hj => by
              obtain ⟨o', ho', hjl⟩ := T.op hj
              exact ⟨fun _ => hjl, fun _ => (Array.getElem?_eq_some_iff.1 ho').1⟩
            rw [← t2]
            refine I.good.swap ?_ ?_ (fun k L hL => ?_) (fun t L hL => ?_) I.low
            · rw [I.next ops.size (Nat.le_refl _) (fun j p hj _ => hside j p hj)]; exact Nat.le_refl _
            · rw [I.kn, T.knAt _ (Nat.le_refl _)]; exact Nat.le_refl _
            · exact (I.g k L ops.size (Nat.le_refl _) hL (fun j p hj _ => hside j p hj)).symm
            · exact (I.lk t L ops.size (Nat.le_refl _) hL (fun j p hj _ => hside j p hj)).symm
          · intro t v hv
            rw [← t2] at hv
            exact I.env t v ops.size (Nat.le_refl _) (fun j p o hj ho _ => by
              obtain ⟨o', ho', hjl⟩ := T.op hj
              exact ⟨fun _ => hjl, fun _ => (Array.getElem?_eq_some_iff.1 ho').1⟩) hv
        · exact Nat.le_trans (List.length_filter_le _ _) (by simp)
        · intro q o hq
          exfalso
          unfold Lst at hq
          simp [Array.getD] at hq
        · have hno : ∀ q, ¬ Lst (Array.replicate ops.size false) q := fun q hq => by unfold Lst at hq; simp [Array.getD] at hq
          have hgood := (Good.keepNos hR ops.size ops.size).drewR (w.drawn + 1)
          refine { kn := rfl, next := ?_, lim := Nat.le_refl _, g := ?_, lk := ?_, low := ?_, good := hgood, adds := .refl _ _, domg := ?_, doml := ?_, env := ?_, size := rfl, defers := rfl }
          · intro k hk h
            have := T.stableN k 0 (by omega) (fun j _ h2 hq => by
              obtain ⟨pj, oj, hj, _, _⟩ := T.at (i := j) (by omega)
              exact hno _ ((h j pj hj hq).2 (by omega)))
            rw [Nat.zero_add] at this
            rw [this, t1]
          · intro id L k hk _ h
            have := T.stableG (id := id) k 0 (by omega) (fun j _ h2 hq => by
              obtain ⟨pj, oj, hj, _, _⟩ := T.at (i := j) (by omega)
              exact hno _ ((h j pj hj hq).2 (by omega)))
            rw [Nat.zero_add] at this
            rw [this, t1]
          · intro t L k hk _ h
            have := T.stableL (t := t) k 0 (by omega) (fun j _ h2 hq => by
              obtain ⟨pj, oj, hj, _, _⟩ := T.at (i := j) (by omega)
              exact hno _ ((h j pj hj hq).2 (by omega)))
            rw [Nat.zero_add] at this
            rw [this, t1]
          · have := T.lowAt ops.size 0 (by omega)
            rw [t1, Nat.zero_add] at this
            exact this
          · intro j p hj hs
            exfalso
            cases hq : J.g (s.h.next + j) with
            | none => rw [hq] at hs; cases hs
            | some L => have := hR.gdom _ _ hq; omega
          · intro j p hj hs
            exfalso
            cases hq : J.l (s.kn + j) with
            | none => rw [hq] at hs; cases hs
            | some L => have := hR.ldom _ _ hq; omega
          · intro t v k hk h hv
            have := T.stableE (t := t) k 0 (by omega) (fun j p o _ h2 hj ho hd => hno _ ((h j p o hj ho hd).2 (by omega)))
            rw [Nat.zero_add] at this
            rw [this, t1] at hv
            exact hE t v hv
    · cases h

end Go.Sim
