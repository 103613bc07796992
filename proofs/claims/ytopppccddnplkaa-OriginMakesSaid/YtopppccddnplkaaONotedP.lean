/-
  OriginNoted: the plain law.
-/
import Derived.Test.YtopppccddnplkaaOPlain
import Derived.Test.YtopppccddnplkaaONote
import Derived.Test.YtopppccddnplkaaOLawBase
namespace Go.Proofs.Ytopppccddnplkaa
open Go.Sim
open Classical
set_option linter.unusedVariables false
set_option maxRecDepth 100000

/-- The same records, with other digests. -/
structure Digd (l m : List Rec) : Prop where
  len : m.length = l.length
  each : ∀ i : Int, 0 ≤ i → i < l.length → ∃ d, 0 ≤ d ∧ d < 1000000007 ∧ rat m i = { rat l i with dig := d }

theorem Digd.allP {l m : List Rec} (k : Digd l m) {ps : List Bytes} (h : AllP l ps) : AllP m ps := by
  have hl := k.len
  have hid := idx_same hl (fun i i0 i1 => by obtain ⟨d, _, _, q⟩ := k.each i i0 i1; rw [q])
  refine ⟨by rw [hl]; exact h.len, by rw [hl]; exact h.lens, ⟨fun i i0 i1 => ?_, fun i i0 i1 f hf => ?_⟩, fun i i0 i1 => ?_, fun i i0 i1 => ?_, fun i i0 i1 => h.le i i0 (by omega)⟩ <;> obtain ⟨d, d0, d1, q⟩ := k.each i i0 (by omega)
  · rw [hid, q]; exact h.prov.self i i0 (by omega)
  · rw [q] at hf
    rw [hid]
    exact h.prov.down i i0 (by omega) f hf
  · rw [q]
    have := h.form i i0 (by omega)
    exact ⟨this.1, d0, d1, this.2.2.2⟩
  · rw [q, madeS_dig, h.eq i i0 (by omega)]
    congr 1
    unfold insOf
    exact List.map_congr_left (fun f hf => by rw [hid])
theorem rat_of_mem {l : List Rec} {r : Rec} (h : r ∈ l) : ∃ i : Int, 0 ≤ i ∧ i < l.length ∧ rat l i = r := by
  obtain ⟨j, hj⟩ := List.getElem?_of_mem h
  have hjl : j < l.length := (List.getElem?_eq_some_iff.1 hj).1
  refine ⟨j, by omega, by omega, ?_⟩
  unfold rat
  rw [Int.toNat_natCast, List.getD, hj]
  rfl
theorem Digd.okL {l m : List Rec} (k : Digd l m) (h : okL l) : okL m := by
  intro r hr
  obtain ⟨i, i0, i1, rfl⟩ := rat_of_mem hr
  have := k.len
  obtain ⟨d, _, _, q⟩ := k.each i i0 (by omega)
  rw [q]
  have hz := h (rat l i) (rat_mem i0 (by omega))
  exact hz
theorem Digd.notes {l : List Rec} {ps : List Bytes} (h : ps.length = l.length) : Digd l (notes l ps) :=
  ⟨notes_len l ps h, fun i i0 i1 => ⟨_, (dig_range _).1, (dig_range _).2, notes_rat h i0 i1⟩⟩

def undone (l : List Rec) (ps : List Bytes) (i : Nat) : List Rec := l.take i ++ (notes l ps).drop i
theorem undone_len {l : List Rec} {ps : List Bytes} (h : ps.length = l.length) {i : Nat} (hi : i ≤ l.length) : (undone l ps i).length = l.length := by
  have := notes_len l ps h
  unfold undone; simp; omega
theorem undone_zero (l : List Rec) (ps : List Bytes) : undone l ps 0 = notes l ps := rfl
theorem undone_all {l : List Rec} {ps : List Bytes} (h : ps.length = l.length) : undone l ps l.length = l := by
  have := notes_len l ps h
  unfold undone
  rw [List.take_length, List.drop_eq_nil_of_le (by omega), List.append_nil]
theorem undone_rat {l : List Rec} {ps : List Bytes} (h : ps.length = l.length) {i : Nat} (hi : i ≤ l.length) {j : Int} (j0 : 0 ≤ j) (j1 : j < l.length) : rat (undone l ps i) j = if j < i then rat l j else rat (notes l ps) j := by
  have hn := notes_len l ps h
  unfold undone rat
  have ht : (l.take i).length = i := by simp; omega
  split
  · rw [List.getD, List.getElem?_append_left (by omega), List.getElem?_take, if_pos (by omega)]; rfl
  · rw [List.getD, List.getElem?_append_right (by omega), List.getElem?_drop, ht, show i + (j.toNat - i) = j.toNat by omega]; rfl
theorem Digd.back {l : List Rec} {ps : List Bytes} (h : AllP l ps) {i : Nat} (hi : i ≤ l.length) : Digd l (undone l ps i) := by
  refine ⟨undone_len h.lens hi, fun j j0 j1 => ?_⟩
  rw [undone_rat h.lens hi j0 j1]
  split
  · have := h.form j j0 j1
    exact ⟨(rat l j).dig, this.2.1, this.2.2.1, rfl⟩
  · exact (Digd.notes h.lens).each j j0 j1
theorem undone_set {l : List Rec} {ps : List Bytes} (h : ps.length = l.length) {i : Nat} (hi : i < l.length) : (undone l ps i).set i (rat l i) = undone l ps (i + 1) := by
  have hn := notes_len l ps h
  unfold undone
  have hl : (l.take i).length = i := by simp; omega
  rw [List.set_append, if_neg (by omega), hl, Nat.sub_self, List.take_add_one]
  have e1 : l[i]? = some (rat l i) := by
    unfold rat
    rw [Int.toNat_natCast]
    exact getD_some _ _ _ hi
  rw [e1, List.drop_eq_getElem_cons (by omega : i < (notes l ps).length), List.set_cons_zero]
  simp

theorem outN_more {l : List Rec} {p : Int → Prop} {m : Nat} : ∀ k : Nat, ∃ tl, outN l p (m + k) = outN l p m ++ tl := by
  intro k
  induction k with
  | zero => exact ⟨[], by simp⟩
  | succ k ih =>
    obtain ⟨tl, ih⟩ := ih
    by_cases q : p ((m + k : Nat) : Int)
    · refine ⟨tl ++ [(rat l ((m + k : Nat) : Int)).name], ?_⟩
      have := outN_yes (l := l) (p := p) (i := ((m + k : Nat) : Int)) (by omega) q
      rw [show (((m + k : Nat) : Int) + 1).toNat = m + (k + 1) by omega, Int.toNat_natCast] at this
      rw [this, ih, List.append_assoc]
    · refine ⟨tl, ?_⟩
      have := outN_no (l := l) (p := p) (i := ((m + k : Nat) : Int)) (by omega) q
      rw [show (((m + k : Nat) : Int) + 1).toNat = m + (k + 1) by omega, Int.toNat_natCast] at this
      rw [this, ih]
/-- The name of a record that is chosen, and its place among the names. -/
theorem outN_at {l : List Rec} {p : Int → Prop} {i : Int} (i0 : 0 ≤ i) {n : Nat} (i1 : i < n) (hp : p i) : (outN l p i.toNat).length < (outN l p n).length ∧ sat' (outN l p n) (outN l p i.toNat).length = (rat l i).name := by
  obtain ⟨tl, ht⟩ := outN_more (l := l) (p := p) (m := (i + 1).toNat) (n - (i + 1).toNat)
  rw [show (i + 1).toNat + (n - (i + 1).toNat) = n by omega, outN_yes i0 hp] at ht
  rw [ht]
  refine ⟨by simp, ?_⟩
  unfold sat'
  rw [Int.toNat_natCast, List.getD]
  simp
theorem outN_none {l : List Rec} {p : Int → Prop} {n : Nat} (h : ∀ j : Int, 0 ≤ j → j < n → ¬ p j) : outN l p n = [] := by
  induction n with
  | zero => rfl
  | succ n ih =>
    have := outN_no (l := l) (p := p) (i := (n : Int)) (by omega) (h n (by omega) (by omega))
    rw [show ((n : Int) + 1).toNat = n + 1 by omega, Int.toNat_natCast] at this
    rw [this]
    exact ih (fun j j0 j1 => h j j0 (by omega))
theorem ver_notes {l : List Rec} {ps : List Bytes} (h : AllP l ps) {e : Int} {r : List Str} (hv : VerIs (notes l ps) e r) : e = 0 ∧ r = [] := by
  have hA := ((Digd.notes h.lens).allP h).allIs
  have hn := notes_len l ps h.lens
  have := hv.uniq (.inr ⟨ps, hA, rfl, rfl⟩)
  refine ⟨this.1, this.2.trans (outN_none (fun j j0 j1 q => ?_))⟩
  unfold offP at q
  rw [notes_rat h.lens j0 (by omega)] at q
  exact q rfl
theorem ver_is {l : List Rec} {ps : List Bytes} (h : AllIs l 0 (some ps)) {e : Int} {r : List Str} (hv : VerIs l e r) : e = 0 ∧ r = outN l (offP l ps) l.length :=
  hv.uniq (.inr ⟨ps, h, rfl, rfl⟩)
theorem note_is {l : List Rec} {ps : List Bytes} (h : AllIs l 0 (some ps)) {e : Int} {r : List Rec} (hv : NoteIs l e r) : e = 0 ∧ r = notes l ps :=
  hv.uniq (.inr ⟨ps, h, rfl, rfl⟩)

end Go.Proofs.Ytopppccddnplkaa
