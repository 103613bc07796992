/-
  PROVENANCES, PRODUCT BY PRODUCT: the plain laws of OriginLeft, OriginChange and OriginNoted.
-/
import Derived.Test.YtopppccddnplkaaOMake
namespace Go.Proofs.Ytopppccddnplkaa
open Go.Sim
open Classical
set_option linter.unusedVariables false
set_option maxRecDepth 100000

structure AllP (l : List Rec) (ps : List Bytes) : Prop where
  len : l.length ≤ 40
  lens : ps.length = l.length
  prov : Prov l
  form : ∀ i : Int, 0 ≤ i → i < l.length → formP (rat l i)
  eq : ∀ i : Int, 0 ≤ i → i < l.length → bat ps i = madeS (rat l i) (insOf l ps (rat l i))
  le : ∀ i : Int, 0 ≤ i → i < l.length → (bat ps i).length ≤ 1000

theorem idx_lt {l : List Rec} {s : Str} (h : 0 ≤ idxOf l s) : idxOf l s < l.length := by
  rcases idx_cases l s with ⟨q, _⟩ | ⟨_, q, _⟩ <;> omega
theorem bat_app {ps qs : List Bytes} {i : Int} (h0 : 0 ≤ i) (h1 : i < ps.length) : bat (ps ++ qs) i = bat ps i := by
  unfold bat
  rw [List.getD, List.getElem?_append_left (by omega)]
  rfl
theorem bat_take {ps : List Bytes} {n : Nat} {i : Int} (h0 : 0 ≤ i) (h1 : i < n) : bat (ps.take n) i = bat ps i := by
  unfold bat
  rw [List.getD, List.getElem?_take, if_pos (by omega)]
  rfl

theorem Alls.keep {d : List Rec} {ps : List Bytes} {l : List Rec} {e : Int} {o : Option (List Bytes)} (h : Alls d ps l e o) : ∀ qs, o = some qs → ∃ tl, qs = ps ++ tl := by
  induction h with
  | nil d ps => intro qs q; cases q; exact ⟨[], by simp⟩
  | twice a => intro qs q; cases q
  | lacks a b => intro qs q; cases q
  | bad a b c => intro qs q; cases q
  | big a b c q => intro qs q; cases q
  | go a b c q t ih =>
    intro qs ho
    obtain ⟨tl, rfl⟩ := ih qs ho
    exact ⟨_, by rw [List.append_assoc]⟩
theorem Alls.each {d : List Rec} {ps : List Bytes} {l : List Rec} {e : Int} {o : Option (List Bytes)} (h : Alls d ps l e o) (hlen : ps.length = d.length) : ∀ qs, o = some qs → ∀ i : Int, d.length ≤ i → i < (d.length : Int) + l.length →
    bat qs i = madeS (rat (d ++ l) i) (insOf ((d ++ l).take i.toNat) (qs.take i.toNat) (rat (d ++ l) i)) ∧ (bat qs i).length ≤ 1000 := by
  induction h with
  | nil d ps => intro qs _ i i0 i1; simp at i1; omega
  | twice a => intro qs q; cases q
  | lacks a b => intro qs q; cases q
  | bad a b c => intro qs q; cases q
  | big a b c q => intro qs q; cases q
  | @go d ps r l e o a b c q t ih =>
    intro qs ho i i0 i1
    by_cases ei : i = d.length
    · subst ei
      have h1 : (d ++ r :: l).take ((d.length : Int).toNat) = d := by rw [Int.toNat_natCast, List.take_left' rfl]
      have h2 : rat (d ++ r :: l) d.length = r := by
        unfold rat
        rw [Int.toNat_natCast, List.getD, List.getElem?_append_right (Nat.le_refl _), Nat.sub_self]
        rfl
      rw [h1, h2]
      obtain ⟨tl, rfl⟩ := t.keep qs ho
      have h3 : ((ps ++ [madeS r (insOf d ps r)]) ++ tl).take ((d.length : Int).toNat) = ps := by
        rw [Int.toNat_natCast, List.append_assoc, List.take_left' hlen]
      have h4 : bat ((ps ++ [madeS r (insOf d ps r)]) ++ tl) d.length = madeS r (insOf d ps r) := by
        unfold bat
        rw [Int.toNat_natCast, List.getD, List.append_assoc, List.getElem?_append_right (by omega), hlen, Nat.sub_self]
        rfl
      rw [h3, h4]
      exact ⟨rfl, q⟩
    · have := ih (by simp [hlen]) qs ho i (by simp; omega) (by simp at i1 ⊢; omega)
      rw [List.append_assoc, List.singleton_append] at this
      exact this

theorem ins_take {l : List Rec} {ps : List Bytes} {n : Nat} {r : Rec} (h : ∀ f ∈ r.frm, 0 ≤ idxOf (l.take n) f) : insOf (l.take n) (ps.take n) r = insOf l ps r := by
  unfold insOf
  refine List.map_congr_left (fun f hf => ?_)
  have h0 := h f hf
  have h1 := idx_lt h0
  rw [List.length_take] at h1
  rw [idx_take h0, bat_take h0 (by omega)]

theorem AllIs.allP {l : List Rec} {ps : List Bytes} (h : AllIs l 0 (some ps)) : AllP l ps := by
  obtain ⟨pv, hf, h40⟩ := h.prov
  have hl := h.lens
  rcases h with ⟨_, q, _⟩ | ⟨_, h⟩
  · cases q
  have g := h.good ps rfl
  have ea := h.each rfl ps rfl
  simp only [List.nil_append, List.length_nil] at g ea
  refine ⟨h40, hl, pv, hf, fun i i0 i1 => ?_, fun i i0 i1 => (ea i (by omega) (by omega)).2⟩
  rw [(ea i (by omega) (by omega)).1, ins_take (g i (by omega) (by omega)).2.1]

theorem idx_take_none {l : List Rec} (hp : Prov l) {i : Int} (i0 : 0 ≤ i) (i1 : i < l.length) : idxOf (l.take i.toNat) (rat l i).name = -1 := by
  refine idx_none (fun j j0 j1 e => ?_)
  rw [List.length_take] at j1
  rw [rat_take j0 (by omega)] at e
  have h1 := hp.self i i0 i1
  have h2 := hp.self j j0 (by omega)
  rw [e] at h2
  omega
theorem idx_take_some {l : List Rec} {s : Str} {i : Int} (h0 : 0 ≤ idxOf l s) (h1 : idxOf l s < i) : 0 ≤ idxOf (l.take i.toNat) s := by
  rcases idx_cases l s with ⟨q, _⟩ | ⟨_, q1, q2, q3⟩
  · omega
  have : idxOf (l.take i.toNat) s = idxOf l s := by
    refine idx_at h0 (by rw [List.length_take]; omega) (by rw [rat_take h0 (by omega)]; exact q2) (fun j j0 j1 => ?_)
    rw [rat_take j0 (by omega)]
    exact q3 j j0 j1
  omega

theorem AllP.allIs {l : List Rec} {ps : List Bytes} (h : AllP l ps) : AllIs l 0 (some ps) := by
  refine .inr ⟨h.len, ?_⟩
  have main : ∀ k : Nat, k ≤ l.length → Alls (l.take (l.length - k)) (ps.take (l.length - k)) (l.drop (l.length - k)) 0 (some ps) := by
    intro k
    induction k with
    | zero =>
      intro _
      rw [Nat.sub_zero, List.take_length, List.drop_length, List.take_of_length_le (by have := h.lens; omega)]
      exact .nil _ _
    | succ k ih =>
      intro hk
      have ih := ih (by omega)
      obtain ⟨j, hj⟩ : ∃ j, j = l.length - (k + 1) := ⟨_, rfl⟩
      have hj1 : l.length - k = j + 1 := by omega
      rw [hj1] at ih
      rw [← hj]
      have hjl : j < l.length := by omega
      have hr : l[j]? = some (rat l j) := by unfold rat; rw [Int.toNat_natCast]; exact getD_some l j noRec hjl
      have hd : l.drop j = rat l j :: l.drop (j + 1) := by
        rw [List.drop_eq_getElem_cons hjl]
        congr 1
        rw [List.getElem?_eq_getElem hjl] at hr
        exact Option.some.inj hr
      have ht : l.take (j + 1) = l.take j ++ [rat l j] := by rw [List.take_add_one, hr]; rfl
      have hpl := h.lens
      have hpt : ps.take (j + 1) = ps.take j ++ [bat ps j] := by
        rw [List.take_add_one]
        have : ps[j]? = some (bat ps j) := by unfold bat; rw [Int.toNat_natCast]; exact getD_some ps j [] (by omega)
        rw [this]; rfl
      have hdn := h.prov.down j (by omega) (by omega)
      have hsome : ∀ f ∈ (rat l j).frm, 0 ≤ idxOf (l.take j) f := fun f hf => by
        have := idx_take_some (l := l) (s := f) (i := j) (hdn f hf).1 (hdn f hf).2
        rwa [Int.toNat_natCast] at this
      have hnone := idx_take_none h.prov (i := j) (by omega) (by omega)
      rw [Int.toNat_natCast] at hnone
      have heq := h.eq j (by omega) (by omega)
      rw [← ins_take hsome] at heq
      have hle := h.le j (by omega) (by omega)
      rw [ht, hpt, heq] at ih
      rw [heq] at hle
      rw [hd]
      exact .go hnone hsome (h.form j (by omega) (by omega)) hle ih
  have := main l.length (Nat.le_refl _)
  simpa using this

theorem prov_idx {l : List Rec} (hp : Prov l) {j : Int} (j0 : 0 ≤ j) (j1 : j < l.length) {s : Str} (h : (rat l j).name = s) : idxOf l s = j := by rw [← h]; exact hp.self j j0 j1

/-- Some of the records. -/
theorem AllP.some {l : List Rec} {ps : List Bytes} (h : AllP l ps) {l' : List Rec} {ps' : List Bytes} (up : Int → Int) (hll : l'.length ≤ l.length) (hpl : ps'.length = l'.length)
    (hu : ∀ j : Int, 0 ≤ j → j < l'.length → 0 ≤ up j ∧ up j < l.length ∧ rat l' j = rat l (up j) ∧ bat ps' j = bat ps (up j)) (hmono : ∀ j k : Int, 0 ≤ j → j < k → k < l'.length → up j < up k)
    (hdn : ∀ j : Int, 0 ≤ j → j < l'.length → ∀ f ∈ (rat l' j).frm, ∃ m, 0 ≤ m ∧ m < j ∧ up m = idxOf l f) : AllP l' ps' := by
  have hself : ∀ j : Int, 0 ≤ j → j < l'.length → idxOf l' (rat l' j).name = j := fun j j0 j1 => by
    refine idx_at j0 j1 rfl (fun k k0 k1 e => ?_)
    obtain ⟨u1, u2, u3, _⟩ := hu j j0 j1
    obtain ⟨v1, v2, v3, _⟩ := hu k k0 (by omega)
    have hm := hmono k j k0 k1 j1
    rw [u3, v3] at e
    have := h.prov.self _ u1 u2
    have := h.prov.self _ v1 v2
    rw [e] at this
    omega
  have hidx : ∀ j : Int, 0 ≤ j → j < l'.length → ∀ f ∈ (rat l' j).frm, 0 ≤ idxOf l' f ∧ idxOf l' f < j ∧ bat ps' (idxOf l' f) = bat ps (idxOf l f) := fun j j0 j1 f hf => by
    obtain ⟨m, m0, m1, m2⟩ := hdn j j0 j1 f hf
    obtain ⟨u1, u2, u3, u4⟩ := hu m m0 (by omega)
    have hnm : (rat l' m).name = f := by
      rw [u3, m2]
      exact idx_name (by rw [← m2]; exact u1)
    have : idxOf l' f = m := by rw [← hnm]; exact hself m m0 (by omega)
    rw [this, u4, m2]
    exact ⟨m0, m1, rfl⟩
  refine ⟨by have := h.len; omega, hpl, ⟨hself, fun j j0 j1 f hf => ⟨(hidx j j0 j1 f hf).1, (hidx j j0 j1 f hf).2.1⟩⟩, fun j j0 j1 => ?_, fun j j0 j1 => ?_, fun j j0 j1 => ?_⟩
  · obtain ⟨u1, u2, u3, u4⟩ := hu j j0 j1
    rw [u3]; exact h.form _ u1 u2
  · obtain ⟨u1, u2, u3, u4⟩ := hu j j0 j1
    rw [u4, h.eq _ u1 u2, ← u3]
    congr 1
    unfold insOf
    exact List.map_congr_left (fun f hf => (hidx j j0 j1 f hf).2.2.symm)
  · obtain ⟨u1, u2, u3, u4⟩ := hu j j0 j1
    rw [u4]; exact h.le _ u1 u2

theorem AllP.take {l : List Rec} {ps : List Bytes} (h : AllP l ps) (n : Nat) : AllP (l.take n) (ps.take n) := by
  have hl := h.lens
  refine h.some id (by rw [List.length_take]; omega) (by rw [List.length_take, List.length_take, hl]) (fun j j0 j1 => ?_) (fun j k _ hjk _ => hjk) (fun j j0 j1 f hf => ?_)
  · rw [List.length_take] at j1
    exact ⟨j0, by show j < _; omega, rat_take j0 (by omega), bat_take j0 (by omega)⟩
  · rw [List.length_take] at j1
    rw [rat_take j0 (by omega)] at hf
    have := h.prov.down j j0 (by omega) f hf
    exact ⟨_, this.1, this.2, rfl⟩

/-- One record is left out. -/
def leave {α : Type} (l : List α) (at_ : Nat) : List α := l.take at_ ++ l.drop (at_ + 1)
def upTo (at_ j : Int) : Int := if j < at_ then j else j + 1
theorem leave_len {α : Type} {l : List α} {n : Nat} (h : n < l.length) : (leave l n).length = l.length - 1 := by unfold leave; simp; omega
theorem leave_at {α : Type} {l : List α} {n : Nat} (h : n < l.length) (j : Int) (j0 : 0 ≤ j) : (leave l n)[j.toNat]? = l[(upTo n j).toNat]? := by
  unfold leave upTo
  by_cases c : j < n
  · rw [if_pos c, List.getElem?_append_left (by simp; omega), List.getElem?_take, if_pos (by omega)]
  · rw [if_neg c, List.getElem?_append_right (by simp; omega), List.getElem?_drop]
    congr 1
    simp
    omega
theorem leave_rat {l : List Rec} {n : Nat} (h : n < l.length) {j : Int} (j0 : 0 ≤ j) : rat (leave l n) j = rat l (upTo n j) := by
  unfold rat; rw [List.getD, List.getD, leave_at h j j0]
theorem leave_bat {l : List Bytes} {n : Nat} (h : n < l.length) {j : Int} (j0 : 0 ≤ j) : bat (leave l n) j = bat l (upTo n j) := by
  unfold bat; rw [List.getD, List.getD, leave_at h j j0]

theorem AllP.leave {l : List Rec} {ps : List Bytes} (h : AllP l ps) {n : Nat} (hn : n < l.length) (hno : ∀ i : Int, (n : Int) < i → i < l.length → (rat l n).name ∉ (rat l i).frm) : AllP (leave l n) (leave ps n) := by
  have hl := h.lens
  have h1 := leave_len hn
  have h2 := leave_len (l := ps) (n := n) (by omega)
  refine h.some (upTo n) (by omega) (by omega) (fun j j0 j1 => ⟨?_, ?_, leave_rat hn j0, leave_bat (by omega) j0⟩) (fun j k j0 jk k1 => ?_) (fun j j0 j1 f hf => ?_)
  · unfold upTo; split <;> omega
  · unfold upTo; split <;> omega
  · unfold upTo; split <;> split <;> omega
  · rw [leave_rat hn j0] at hf
    have u0 : 0 ≤ upTo n j := by unfold upTo; split <;> omega
    have u1 : upTo n j < l.length := by unfold upTo; split <;> omega
    have hd := h.prov.down _ u0 u1 f hf
    have hne : idxOf l f ≠ n := fun q => by
      have hnm := idx_name hd.1
      rw [q] at hnm hd
      exact hno _ hd.2 u1 (by rw [hnm]; exact hf)
    by_cases c : idxOf l f < n
    · refine ⟨idxOf l f, hd.1, ?_, by unfold upTo; rw [if_pos c]⟩
      have := hd.2
      unfold upTo at this
      split at this <;> omega
    · refine ⟨idxOf l f - 1, by omega, ?_, by unfold upTo; rw [if_neg (by omega)]; omega⟩
      have := hd.2
      unfold upTo at this
      split at this <;> omega

/-- The name of the record that is left out is none of the others. -/
theorem leave_none {l : List Rec} (hp : Prov l) {n : Nat} (hn : n < l.length) : idxOf (leave l n) (rat l n).name = -1 := by
  refine idx_none (fun j j0 j1 e => ?_)
  rw [leave_len hn] at j1
  rw [leave_rat hn j0] at e
  have u0 : 0 ≤ upTo n j := by unfold upTo; split <;> omega
  have u1 : upTo n j < l.length := by unfold upTo; split <;> omega
  have h1 := hp.self _ u0 u1
  have h2 := hp.self n (by omega) (by omega)
  rw [e] at h1
  have : upTo n j ≠ n := by unfold upTo; split <;> omega
  omega

/-! ### Records with the same names, made of the same -/

theorem idx_same {l m : List Rec} (hl : m.length = l.length) (h : ∀ i : Int, 0 ≤ i → i < l.length → (rat m i).name = (rat l i).name) (s : Str) : idxOf m s = idxOf l s := by
  rcases idx_cases l s with ⟨q, w⟩ | ⟨q1, q2, q3, q4⟩
  · rw [q]
    exact idx_none (fun i i0 i1 => by rw [h i i0 (by omega)]; exact w i i0 (by omega))
  · exact idx_at q1 (by omega) (by rw [h _ q1 q2]; exact q3) (fun j j0 j1 => by rw [h j j0 (by omega)]; exact q4 j j0 j1)

/-- Digests are noted. -/
def notes : List Rec → List Bytes → List Rec
  | r :: l, p :: ps => { r with dig := dig p } :: notes l ps
  | _, _ => []
theorem notes_len : ∀ (l : List Rec) (ps : List Bytes), ps.length = l.length → (notes l ps).length = l.length
  | [], _, _ => by unfold notes; rfl
  | r :: l, [], h => by simp at h
  | r :: l, p :: ps, h => by simp [notes, notes_len l ps (by simpa using h)]
theorem notes_get : ∀ (l : List Rec) (ps : List Bytes), ps.length = l.length → ∀ (i : Nat) (r : Rec) (p : Bytes), l[i]? = some r → ps[i]? = some p → (notes l ps)[i]? = some { r with dig := dig p }
  | [], _, _, i, r, p, h, _ => by simp at h
  | r' :: l, [], h, _, _, _, _, _ => by simp at h
  | r' :: l, p' :: ps, h, 0, r, p, hr, hp => by cases hr; cases hp; rfl
  | r' :: l, p' :: ps, h, i + 1, r, p, hr, hp => notes_get l ps (by simpa using h) i r p hr hp
theorem notes_rat {l : List Rec} {ps : List Bytes} (h : ps.length = l.length) {i : Int} (i0 : 0 ≤ i) (i1 : i < l.length) : rat (notes l ps) i = { rat l i with dig := dig (bat ps i) } := by
  have hr := getD_some l i.toNat noRec (by omega)
  have hp := getD_some ps i.toNat [] (by omega)
  have := notes_get l ps h i.toNat _ _ hr hp
  unfold rat bat
  rw [List.getD, this]
  rfl
theorem digS_range : ∀ (b : Bytes) (d : Int), 0 ≤ d → d < 1000000007 → 0 ≤ digS b d ∧ digS b d < 1000000007
  | [], d, h0, h1 => ⟨h0, h1⟩
  | c :: b, d, h0, h1 => digS_range b _ (Int.emod_nonneg _ (by omega)) (Int.emod_lt_of_pos _ (by omega))
theorem dig_range (b : Bytes) : 0 ≤ dig b ∧ dig b < 1000000007 := digS_range b 0 (by omega) (by omega)
theorem madeS_dig (r : Rec) (d : Int) (ins : List Bytes) : madeS { r with dig := d } ins = madeS r ins := rfl

theorem AllP.notes {l : List Rec} {ps : List Bytes} (h : AllP l ps) : AllP (notes l ps) ps := by
  have hl := notes_len l ps h.lens
  have hr := fun (i : Int) (i0 : 0 ≤ i) (i1 : i < l.length) => notes_rat (ps := ps) h.lens i0 i1
  have hid := idx_same hl (fun i i0 i1 => by rw [hr i i0 i1])
  refine ⟨by rw [hl]; exact h.len, by rw [hl]; exact h.lens, ⟨fun i i0 i1 => ?_, fun i i0 i1 f hf => ?_⟩, fun i i0 i1 => ?_, fun i i0 i1 => ?_, fun i i0 i1 => h.le i i0 (by omega)⟩
  · rw [hid, hr i i0 (by omega)]; exact h.prov.self i i0 (by omega)
  · rw [hr i i0 (by omega)] at hf
    rw [hid]
    exact h.prov.down i i0 (by omega) f hf
  · rw [hr i i0 (by omega)]
    have := h.form i i0 (by omega)
    have hd := dig_range (bat ps i)
    exact ⟨this.1, hd.1, hd.2, this.2.2.2⟩
  · rw [hr i i0 (by omega), madeS_dig, h.eq i i0 (by omega)]
    congr 1
    unfold insOf
    exact List.map_congr_left (fun f hf => by rw [hid])

end Go.Proofs.Ytopppccddnplkaa
