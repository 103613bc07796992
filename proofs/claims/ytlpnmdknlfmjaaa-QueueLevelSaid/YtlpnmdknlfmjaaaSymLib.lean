/-
  FACTS FOR SYMBOLIC RUNS: branches, numbers, slices in memory, what a call leaves alone.
-/
import Derived.Test.YtlpnmdknlfmjaaaSymRes2
namespace Go.Sim
set_option linter.unusedVariables false
set_option linter.unusedSimpArgs false

/-! ### Branches -/

theorem br {c : Bool} {A B : Prop} (p : Prop) [Decidable p] (hc : c = decide p) (h1 : p → A) (h2 : ¬ p → B) : cond c A B := by
  subst hc
  by_cases h : p
  · simp only [h, decide_true, cond_true]; exact h1 h
  · simp only [h, decide_false, cond_false]; exact h2 h

theorem brB {c : Bool} {A B : Prop} (h1 : c = true → A) (h2 : c = false → B) : cond c A B := by
  cases c with
  | true => exact h1 rfl
  | false => exact h2 rfl

/-! ### The heap -/

/-- What was there is as it was. -/
structure Ext (h h' : AHeap) : Prop where
  next : h.next ≤ h'.next
  low : h.low ≤ h.next → h'.low ≤ h'.next
  lowG : Nat.min h.low h.next ≤ h'.low
  get : ∀ b, b < h.next → h'.m.get b = h.m.get b

theorem Ext.refl (h : AHeap) : Ext h h := ⟨Nat.le_refl _, fun h => h, Nat.min_le_left _ _, fun _ _ => rfl⟩
theorem Ext.trans {a b c : AHeap} (h : Ext a b) (k : Ext b c) : Ext a c :=
  ⟨Nat.le_trans h.next k.next, fun l => k.low (h.low l), by
    have h1 := h.lowG; have h2 := k.lowG; have h3 := h.next
    have : Nat.min a.low a.next ≤ a.next := Nat.min_le_right _ _
    have h4 : Nat.min a.low a.next ≤ Nat.min b.low b.next := Nat.le_min.2 ⟨h1, by omega⟩
    omega, fun i hi => (k.get i (Nat.lt_of_lt_of_le hi h.next)).trans (h.get i hi)⟩
theorem Ext.push (h : AHeap) (es : Nat) (cs : List Value) : Ext h (h.push es cs) :=
  ⟨by simp [AHeap.push], fun l => by simp only [AHeap.push]; omega, by simp only [AHeap.push]; exact Nat.min_le_left _ _, fun b hb => by simp only [AHeap.push]; rw [Tri.get_set_ne _ _ (by omega)]⟩
theorem Ext.bump (h : AHeap) (n : Nat) : Ext h (h.bump n) :=
  ⟨by simp [AHeap.bump], fun l => by simp only [AHeap.bump]; omega, by simp only [AHeap.bump]; exact Nat.min_le_left _ _, fun b hb => rfl⟩

/-- A block that was made later is written. -/
theorem Ext.write {h h1 h' : AHeap} (k : Ext h h1) {b o : Nat} {vs : List Value} (hb : h.next ≤ b) (hw : h1.write b o vs = some h') : Ext h h' := by
  have kb := KeepB.write (B := 0) hw
  unfold AHeap.write at hw
  split at hw
  · split at hw
    · simp only [Option.some.injEq] at hw
      subst hw
      refine ⟨k.next, fun l => ?_, ?_, fun i hi => ?_⟩
      · have := k.low l
        have h2 : Nat.min h1.low b ≤ h1.low := Nat.min_le_left _ _
        show Nat.min h1.low b ≤ h1.next
        omega
      · have := k.lowG
        show Nat.min h.low h.next ≤ Nat.min h1.low b
        have h2 : Nat.min h.low h.next ≤ h.next := Nat.min_le_right _ _
        exact Nat.le_min.2 ⟨this, by omega⟩
      · show (h1.m.set b _).get i = _
        rw [Tri.get_set_ne _ _ (by omega)]
        exact k.get i hi
    · cases hw
  · cases hw

theorem Ext.kill {h h1 : AHeap} (k : Ext h h1) {b : Nat} (hb : h.next ≤ b) : Ext h (h1.kill b) := by
  refine ⟨k.next, fun l => ?_, ?_, fun i hi => ?_⟩
  · have := k.low l
    have h2 : Nat.min h1.low b ≤ h1.low := Nat.min_le_left _ _
    show Nat.min h1.low b ≤ h1.next
    omega
  · have := k.lowG
    show Nat.min h.low h.next ≤ Nat.min h1.low b
    have h2 : Nat.min h.low h.next ≤ h.next := Nat.min_le_right _ _
    exact Nat.le_min.2 ⟨this, by omega⟩
  · show (h1.m.set b _).get i = _
    rw [Tri.get_set_ne _ _ (by omega)]
    exact k.get i hi

theorem Ext.cells {h h' : AHeap} (k : Ext h h') {b : Nat} (hb : b < h.next) : h'.cells? b = h.cells? b := by
  unfold AHeap.cells?; rw [k.get b hb]

/-! ### Slices in memory -/

/-- A slice's cells. -/
def Cells (h : AHeap) (a : Option Addr) (n es : Nat) (cells : List Value) : Prop :=
  match a with
  | none => n = 0 ∧ cells = []
  | some ad => ad.spot = none ∧ ad.block < h.next ∧ h.readG ad (n * es) = some cells

theorem Cells.ext {h h' : AHeap} {a : Option Addr} {n es : Nat} {cells : List Value} (c : Cells h a n es cells) (k : Ext h h') : Cells h' a n es cells := by
  cases a with
  | none => exact c
  | some ad =>
    obtain ⟨h1, h2, h3⟩ := c
    refine ⟨h1, Nat.lt_of_lt_of_le h2 k.next, ?_⟩
    unfold AHeap.readG at h3 ⊢
    rw [k.cells h2]
    exact h3

theorem Cells.length {h : AHeap} {a : Option Addr} {n es : Nat} {cells : List Value} (c : Cells h a n es cells) : cells.length = n * es := by
  cases a with
  | none => obtain ⟨rfl, rfl⟩ := c; simp
  | some ad =>
    obtain ⟨h1, h2, h3⟩ := c
    unfold AHeap.readG at h3
    rw [h1] at h3
    simp only [] at h3
    split at h3
    · exact (readN_spec h3).1
    · cases h3

theorem readN_some {cs : List Value} {off n : Nat} {l : List Value} (h : (cs.drop off).take n = l) (hl : l.length = n) : readN cs off n = some l := by
  unfold readN
  simp only [h, hl]
  simp

theorem readN_eq {cs : List Value} {off n : Nat} {l : List Value} (h : readN cs off n = some l) : (cs.drop off).take n = l ∧ l.length = n := by
  have h1 := (readN_spec h).1
  unfold readN at h
  obtain ⟨_, h2⟩ := condSome h
  exact ⟨h2, h1⟩

/-- A part of the cells. -/
theorem Cells.at {h : AHeap} {a : Option Addr} {n es : Nat} {cells : List Value} (c : Cells h a n es cells) {i m : Nat} (hi : i + m ≤ n * es) (hm : 0 < m) : ∃ b o, a = some ⟨b, o, none⟩ ∧ b < h.next ∧ h.readG ⟨b, o + i, none⟩ m = some ((cells.drop i).take m) := by
  have hlen := c.length
  cases a with
  | none => obtain ⟨rfl, rfl⟩ := c; simp at hi; omega
  | some ad =>
    obtain ⟨h1, h2, h3⟩ := c
    obtain ⟨b, o, sp⟩ := ad
    simp only at h1
    subst h1
    refine ⟨b, o, rfl, h2, ?_⟩
    unfold AHeap.readG at h3 ⊢
    simp only [] at h3 ⊢
    split at h3
    · rename_i cs hcs
      obtain ⟨e1, e2⟩ := readN_eq h3
      refine readN_some ?_ ?_
      · subst e1
        rw [List.drop_take, List.take_take, List.drop_drop, Nat.min_eq_left (by omega)]
      · simp only [List.length_take, List.length_drop]; omega
    · cases h3

/-- A slice of numbers. -/
structure Ints (h : AHeap) (k : IntKind) (a : Option Addr) (n : Nat) (l : List Int) : Prop where
  cells : Cells h a n 1 (l.map (.int k))

theorem Ints.len {h : AHeap} {k : IntKind} {a : Option Addr} {n : Nat} {l : List Int} (c : Ints h k a n l) : l.length = n := by
  have := c.cells.length; simpa using this

theorem Ints.ext {h h' : AHeap} {k : IntKind} {a : Option Addr} {n : Nat} {l : List Int} (c : Ints h k a n l) (e : Ext h h') : Ints h' k a n l := ⟨c.cells.ext e⟩

theorem take_one {α : Type} (l : List α) (i : Nat) (x : α) (h : l[i]? = some x) : (l.drop i).take 1 = [x] := by
  obtain ⟨hi, rfl⟩ := List.getElem?_eq_some_iff.1 h
  rw [List.drop_eq_getElem_cons hi, List.take_succ_cons, List.take_zero]

theorem Ints.at {h : AHeap} {k : IntKind} {a : Option Addr} {n : Nat} {l : List Int} (c : Ints h k a n l) {i : Nat} (hi : i < n) : ∃ b o, a = some ⟨b, o, none⟩ ∧ b < h.next ∧ h.readG ⟨b, o + i * 1, none⟩ 1 = some [.int k (l.getD i 0)] := by
  obtain ⟨b, o, h1, h2, h3⟩ := c.cells.at (i := i) (m := 1) (by omega) (by omega)
  refine ⟨b, o, h1, h2, ?_⟩
  have hl : i < l.length := by rw [c.len]; exact hi
  rw [Nat.mul_one, h3, take_one _ i (.int k (l.getD i 0)) (by simp [hl])]

/-- The number at a place. -/
def at' (l : List Int) (i : Int) : Int := l.getD i.toNat 0

theorem Ints.atI {h : AHeap} {k : IntKind} {a : Option Addr} {n : Nat} {l : List Int} (c : Ints h k a n l) {i : Int} (h0 : 0 ≤ i) (hi : i < n) : ∃ b o x, a = some ⟨b, o, none⟩ ∧ b < h.next ∧ x = at' l i ∧ h.readG ⟨b, o + i.toNat * 1, none⟩ 1 = some [.int k x] := by
  obtain ⟨b, o, h1, h2, h3⟩ := c.at (i := i.toNat) (by omega)
  exact ⟨b, o, _, h1, h2, rfl, h3⟩

/-! ### Numbers -/

theorem wrap64 {x : Int} (h1 : -9223372036854775808 ≤ x) (h2 : x < 9223372036854775808) : IntKind.wrap .i64 x = x := by
  unfold IntKind.wrap
  simp [IntKind.bits, IntKind.signed, IntKind.min, IntKind.max]
  omega

theorem wrap8 {x : Int} (h1 : 0 ≤ x) (h2 : x < 256) : IntKind.wrap .u8 x = x := by
  unfold IntKind.wrap
  simp [IntKind.bits, IntKind.signed, IntKind.min, IntKind.max]
  omega

end Go.Sim
