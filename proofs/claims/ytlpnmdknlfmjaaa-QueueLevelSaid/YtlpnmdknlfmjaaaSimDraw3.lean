/-
  A REGION THAT DRAWS ITS ORDER (3): one operation comes up.
-/
import Derived.Test.YtlpnmdknlfmjaaaSimDraw2
namespace Go.Sim
set_option linter.unusedSimpArgs false

theorem HR.swap {J : Inj} {s s' : St} {w : World} (h : HR J s w) (hn : s.h.next ≤ s'.h.next) (hk : s.kn ≤ s'.kn) (hg : ∀ id L, J.g id = some L → s'.h.m.get id = s.h.m.get id) (hl : ∀ t L, J.l t = some L → s'.K.get t = s.K.get t) : HR J s' w :=
  { gdom := fun id L hL => Nat.lt_of_lt_of_le (h.gdom id L hL) hn
    gblk := h.gblk
    gcon := fun id L wr es cells hL hm => h.gcon id L wr es cells hL (by rw [← hg id L hL]; exact hm)
    ginj := fun id id' L L' wr es c wr' es' c' h1 h2 h3 h4 h5 => h.ginj id id' L L' wr es c wr' es' c' h1 h2 (by rw [← hg id L h1]; exact h3) (by rw [← hg id' L' h2]; exact h4) h5
    ldom := fun t L hL => Nat.lt_of_lt_of_le (h.ldom t L hL) hk
    lcon := fun t L hL => let ⟨cs, e, h1, h2⟩ := h.lcon t L hL; ⟨cs, e, h1, fun cells hc => h2 cells (by rw [← hl t L hL]; exact hc)⟩
    linj := h.linj
    sep := h.sep }

theorem Good.swap {J0 J : Inj} {s0 s s' : St} {w0 w : World} (h : Good J0 s0 w0 J s w) (hn : s.h.next ≤ s'.h.next) (hk : s.kn ≤ s'.kn) (hg : ∀ id L, J.g id = some L → s'.h.m.get id = s.h.m.get id) (hl : ∀ t L, J.l t = some L → s'.K.get t = s.K.get t) (hlow : s'.h.low ≤ s.h.low) : Good J0 s0 w0 J s' w :=
  { hr := h.hr.swap hn hk hg hl, mono := h.mono, next := Nat.le_trans h.next hn, low := Nat.le_trans hlow h.low, size := h.size, os := h.os, tape := h.tape, output := h.output
    fresh := fun id L h1 h2 => (h.fresh id L h1 h2).imp (fun q => q) (fun ⟨a, b, c, d, e⟩ => ⟨a, b, c, d, Nat.le_trans hlow e⟩)
    lfresh := h.lfresh, frame := fun b hb hg hll => h.frame b hb (fun id L h1 h2 => Nat.lt_of_lt_of_le (hg id L h1 h2) hlow) hll }

theorem fp_block {op : Op} {loc : Bool} {id tag : Nat} {s : St} {l : Bool} {b : Nat} (h : fpOf op loc id tag s = .block l b) : ∃ x a, x ∈ op.operands.toList ∧ evalA s x = some (.pointer (some a)) ∧ a.spot.isSome = l ∧ a.block = b := by
  unfold fpOf at h
  cases hp : pureOp op with
  | true => rw [hp] at h; simp at h
  | false =>
    rw [hp] at h
    simp only [cond_false] at h
    split at h
    · cases loc <;> simp at h
    · cases loc <;> simp at h
    · cases h
    · cases h
    · rename_i t x
      split at h
      · rename_i a ha
        simp only [FP.block.injEq] at h
        exact ⟨x, a, by simp [Op.operands], ha, h.1, h.2⟩
      · cases h
    · rename_i t x y
      split at h
      · rename_i a ha
        simp only [FP.block.injEq] at h
        exact ⟨x, a, by simp [Op.operands], ha, h.1, h.2⟩
      · cases h
    · cases h

theorem fp_newG {op : Op} {loc : Bool} {id tag : Nat} {s : St} (h : newG op loc = true) : fpOf op loc id tag s = .new false id := by
  unfold newG at h
  split at h
  · cases loc <;> simp at h; rfl
  · cases loc <;> simp at h; rfl
  · rfl
  · rfl
  · cases h
theorem fp_newL {op : Op} {loc : Bool} {id tag : Nat} {s : St} (h : newL op loc = true) : fpOf op loc id tag s = .new true tag := by
  unfold newL at h
  split at h
  · subst h; rfl
  · subst h; rfl
  · cases h
theorem fp_new {op : Op} {loc : Bool} {id tag : Nat} {s : St} {l : Bool} {b : Nat} (h : fpOf op loc id tag s = .new l b) : b = bif l then tag else id := by
  unfold fpOf at h
  cases hp : pureOp op with
  | true => rw [hp] at h; simp at h
  | false =>
    rw [hp] at h
    simp only [cond_false] at h
    split at h
    · cases loc <;> simp at h <;> obtain ⟨rfl, rfl⟩ := h <;> rfl
    · cases loc <;> simp at h <;> obtain ⟨rfl, rfl⟩ := h <;> rfl
    · simp at h; obtain ⟨rfl, rfl⟩ := h; rfl
    · simp at h; obtain ⟨rfl, rfl⟩ := h; rfl
    · split at h <;> cases h
    · split at h <;> cases h
    · cases h

theorem sharesL {ops : Array Oper} {x y : Oper} {d : Tmp} (hx : x.dst = some d) (hy : d ∈ y.looksAt ops ∨ y.dst = some d) : shares ops x y = true := by
  unfold shares
  rw [hx]
  simp only [Bool.or_eq_true]
  left
  rcases hy with h | h
  · left; simpa using h
  · right; simp [h]
theorem sharesR {ops : Array Oper} {x y : Oper} {d : Tmp} (hy : y.dst = some d) (hx : d ∈ x.looksAt ops ∨ x.dst = some d) : shares ops x y = true := by
  rcases hx with h | h
  · unfold shares
    rw [hy]
    simp only [Bool.or_eq_true]
    right; simpa using h
  · exact sharesL h (.inr hy)

theorem same_self (l : Bool) (b : Nat) : same l l b b = true := by cases l <;> simp [same, Nat.beq_refl]

section
variable {P : Program} {H : Hint} {call : CallT} {f : FuncId} {nt : Nat} {ops : Array Oper} {base kbase : Nat} {l : List Nat} {S : Nat → St} {V : Nat → Value} {X : Nat → FP} {W : Nat → Bool}

/-- One operation is next. -/
structure Up (ops : Array Oper) (base : Nat) (l : List Nat) (X : Nat → FP) (W : Nat → Bool) (E : Nat → Prop) (i p : Nat) (o : Oper) : Prop where
  hi : l[i]? = some p
  ho : ops[p]? = some o
  hp : ¬ E p
  lt : i < ops.size
  side : ∀ (j q : Nat) (o' : Oper), l[j]? = some q → ops[q]? = some o' → (j < i → shares ops o' o = true ∨ clash (base + ops.size) (X j) (W j) (X i) (W i) = true) → (i < j → shares ops o o' = true ∨ clash (base + ops.size) (X i) (W i) (X j) (W j) = true) → (E q ↔ j < i)
  ne : ∀ (j q : Nat), l[j]? = some q → j ≠ i → q ≠ p

variable (T : Tr P H call f nt ops base kbase l S V X W)
include T

theorem Tr.up {E : Nat → Prop} {i p : Nat} {o : Oper} (hi : l[i]? = some p) (ho : ops[p]? = some o) (hp : ¬ E p) (hE : Closed ops E) (hE' : Closed ops (fun q => E q ∨ q = p)) : Up ops base l X W E i p o where
  hi := hi
  ho := ho
  hp := hp
  lt := by rw [← T.len]; exact (List.getElem?_eq_some_iff.1 hi).1
  ne := fun j q hj hne => by
    rcases Nat.lt_or_gt_of_ne hne with h | h
    · exact T.dist j i q p h hj hi
    · exact fun e => T.dist i j p q h hi hj e.symm
  side := fun j q o' hj ho' h1 h2 => by
    rcases Nat.lt_trichotomy j i with h | h | h
    · have hpr := T.conf j i q p o' o h hj hi ho' ho (h1 h)
      have := before_closed hE' hpr (.inr rfl)
      rcases this with q1 | q1
      · exact ⟨fun _ => h, fun _ => q1⟩
      · exact absurd q1 (T.dist j i q p h hj hi)
    · subst h
      rw [hi] at hj; obtain rfl := Option.some.inj hj
      exact ⟨fun q => absurd q hp, fun q => absurd q (Nat.lt_irrefl _)⟩
    · have hpr := T.conf i j p q o o' h hi hj ho ho' (h2 h)
      exact ⟨fun q1 => absurd (before_closed hE hpr q1) hp, fun q1 => by omega⟩

theorem Tr.op {j q : Nat} (hj : l[j]? = some q) : ∃ o', ops[q]? = some o' ∧ j < ops.size := by
  obtain ⟨o', h, _⟩ := T.step j q hj
  exact ⟨o', h, by rw [← T.len]; exact (List.getElem?_eq_some_iff.1 hj).1⟩

theorem Tr.newAt {j q : Nat} {lc : Bool} {b : Nat} (hj : l[j]? = some q) (h : X j = .new lc b) : b = bif lc then kbase + j else base + j := by
  obtain ⟨o', _, hs⟩ := T.step j q hj
  rcases hs with ⟨_, s1, _, _, hx, _⟩ | ⟨_, _, _, hx, _⟩
  · rw [hx] at h; exact fp_new h
  · rw [hx] at h; cases h

variable {E : Nat → Prop} {i p : Nat} {o : Oper} (U : Up ops base l X W E i p o)
include U

theorem Up.sideC {j q : Nat} (hj : l[j]? = some q) (h1 : j < i → clash (base + ops.size) (X j) (W j) (X i) (W i) = true) (h2 : i < j → clash (base + ops.size) (X i) (W i) (X j) (W j) = true) : E q ↔ j < i := by
  obtain ⟨o', ho', _⟩ := T.op hj
  exact U.side j q o' hj ho' (fun h => .inr (h1 h)) (fun h => .inr (h2 h))

theorem Up.sideG {id : Nat} (hM : ModG S X W i id) {j q : Nat} (hj : l[j]? = some q) (hM' : ModG S X W j id) : E q ↔ j < i := by
  obtain ⟨o', _, hjl⟩ := T.op hj
  have l1 := T.limAt i (Nat.le_of_lt U.lt)
  have l2 := T.limAt j (Nat.le_of_lt hjl)
  refine U.sideC T hj (fun hlt => ?_) (fun hlt => ?_)
  · rcases hM with ⟨a1, a2⟩ | a1 | ⟨a1, a2⟩ <;> rcases hM' with ⟨b1, b2⟩ | b1 | ⟨b1, b2⟩ <;> rw [a1, b1]
    · simp [clash, a2, b2, same_self]
    · simp [clash, same_self]
    · simp [clash]
    · simp [clash, same_self]
    · simp [clash, same_self]
    · simp [clash]
    · simp [clash, b2]
    · rcases a2 with a2 | a2
      · simp [clash, a2]
      · have := T.newAt hj b1; simp only [cond_false] at this; omega
    · simp [clash]
  · rcases hM with ⟨a1, a2⟩ | a1 | ⟨a1, a2⟩ <;> rcases hM' with ⟨b1, b2⟩ | b1 | ⟨b1, b2⟩ <;> rw [a1, b1]
    · simp [clash, a2, b2, same_self]
    · simp [clash, same_self]
    · simp [clash, a2]
    · simp [clash, same_self]
    · simp [clash, same_self]
    · rcases b2 with b2 | b2
      · simp [clash, b2]
      · have := T.newAt U.hi a1; simp only [cond_false] at this; have := U.lt; omega
    · simp [clash]
    · simp [clash]
    · simp [clash]

theorem Up.sideR {id : Nat} (hX : X i = .block false id) {j q : Nat} (hj : l[j]? = some q) (hM' : ModG S X W j id) : E q ↔ j < i := by
  obtain ⟨o', _, hjl⟩ := T.op hj
  have l2 := T.limAt j (Nat.le_of_lt hjl)
  refine U.sideC T hj (fun hlt => ?_) (fun hlt => ?_)
  · rcases hM' with ⟨b1, b2⟩ | b1 | ⟨b1, b2⟩ <;> rw [hX, b1]
    · simp [clash, b2, same_self]
    · simp [clash, same_self]
    · simp [clash]
  · rcases hM' with ⟨b1, b2⟩ | b1 | ⟨b1, b2⟩ <;> rw [hX, b1]
    · simp [clash, b2, same_self]
    · simp [clash, same_self]
    · rcases b2 with b2 | b2
      · simp [clash, b2]
      · simp only [clash, Bool.not_false, Bool.true_and]; rw [blt_false (by omega)]; simp

theorem Up.sideL {t : Nat} (hM : ModL X W i t) {j q : Nat} (hj : l[j]? = some q) (hM' : ModL X W j t) : E q ↔ j < i := by
  refine U.sideC T hj (fun hlt => ?_) (fun hlt => ?_)
  all_goals rcases hM with ⟨a1, a2⟩ | a1 <;> rcases hM' with ⟨b1, b2⟩ | b1 <;> rw [a1, b1]
  all_goals simp [clash, same_self, *]

theorem Up.sideRL {t : Nat} (hX : X i = .block true t) {j q : Nat} (hj : l[j]? = some q) (hM' : ModL X W j t) : E q ↔ j < i := by
  refine U.sideC T hj (fun hlt => ?_) (fun hlt => ?_)
  all_goals rcases hM' with ⟨b1, b2⟩ | b1 <;> rw [hX, b1]
  all_goals simp [clash, same_self, *]

theorem Up.sideN (hX : X i = .all) {j q : Nat} (hj : l[j]? = some q) (hX' : X j = .all) : E q ↔ j < i := by
  refine U.sideC T hj (fun hlt => ?_) (fun hlt => ?_)
  all_goals rw [hX, hX']; rfl

theorem Up.sideA (hX : X i = .all) {id : Nat} (hd : ∀ j q : Nat, l[j]? = some q → id = base + j → E q) {j q : Nat} (hj : l[j]? = some q) (hM' : ModG S X W j id) : E q ↔ j < i := by
  by_cases hn : X j = .new false id
  · have he : E q := hd j q hj (by have := T.newAt hj hn; simpa using this)
    refine ⟨fun _ => ?_, fun _ => he⟩
    rcases Nat.lt_trichotomy j i with h | h | h
    · exact h
    · subst h; rw [U.hi] at hj; obtain rfl := Option.some.inj hj; exact absurd he U.hp
    · obtain ⟨o', ho', _⟩ := T.op hj
      have := U.side j q o' hj ho' (fun q => by omega) (fun _ => .inr (by rw [hX, hn]; rfl))
      exact this.1 he
  · refine U.sideC T hj (fun hlt => ?_) (fun hlt => ?_)
    · rcases hM' with ⟨b1, b2⟩ | b1 | ⟨b1, b2⟩
      · rw [hX, b1]; simp [clash, b2]
      · exact absurd b1 hn
      · rw [hX, b1]; rfl
    · rcases hM' with ⟨b1, b2⟩ | b1 | ⟨b1, b2⟩
      · rw [hX, b1]; rfl
      · exact absurd b1 hn
      · rw [hX, b1]; rfl

end

section
variable {ops : Array Oper} {base : Nat} {l : List Nat} {X : Nat → FP} {W : Nat → Bool} {E : Nat → Prop} {i p : Nat} {o : Oper} (U : Up ops base l X W E i p o)
include U
/-- What the operation looks at has come up as it has in the abstract machine. -/
theorem Up.sideE {t : Tmp} (ht : t ∈ o.looksAt ops ∨ o.dst = some t) {j q : Nat} {o' : Oper} (hj : l[j]? = some q) (ho' : ops[q]? = some o') (hd : o'.dst = some t) : E q ↔ j < i :=
  U.side j q o' hj ho' (fun _ => .inl (sharesL hd ht)) (fun _ => .inl (sharesR hd ht))

/-- Behind it: others are as before. -/
theorem Up.next {j q k : Nat} (hj : l[j]? = some q) (hne : j ≠ i) (h : (E q ∨ q = p) ↔ j < k) : E q ↔ j < k :=
  ⟨fun e => h.1 (.inl e), fun e => (h.2 e).resolve_right (U.ne j q hj hne)⟩
end
end Go.Sim
