/-
  IMAGES THAT ARE BEING MADE: row by row, by append; or in a list that was made ahead.
-/
import Derived.Test.YtogofeppflindaaCMem
namespace Go.Proofs.Ytogofeppflindaa
open Go.Sim
set_option linter.unusedVariables false
set_option maxRecDepth 100000

theorem zip_snoc (bs : List (Nat × Nat)) (g : Grid) (h : bs.length = g.length) (p : Nat × Nat) (r : List Int) : List.zipWith rowV (bs ++ [p]) (g ++ [r]) = List.zipWith rowV bs g ++ [rowV p r] := by
  rw [List.zipWith_append h]; rfl

theorem zip_ok (bs : List (Nat × Nat)) (g : Grid) : (List.zipWith rowV bs g).all cellOK = true := by
  rw [List.all_eq_true]
  intro v hv
  obtain ⟨i, hi⟩ := List.getElem?_of_mem hv
  rw [List.getElem?_zipWith] at hi
  cases h1 : bs[i]? with
  | none => rw [h1] at hi; cases hi
  | some p =>
    cases h2 : g[i]? with
    | none => rw [h1, h2] at hi; cases hi
    | some r => rw [h1, h2] at hi; simp only [Option.some.injEq] at hi; subst hi; rfl

theorem snoc_get {α : Type} {l : List α} {x y : α} {i : Nat} (h : (l ++ [x])[i]? = some y) : (i < l.length ∧ l[i]? = some y) ∨ (i = l.length ∧ y = x) := by
  rcases Nat.lt_trichotomy i l.length with q | q | q
  · rw [List.getElem?_append_left q] at h; exact .inl ⟨q, h⟩
  · subst q; simp at h; exact .inr ⟨rfl, h.symm⟩
  · rw [List.getElem?_eq_none (by simp; omega)] at h; cases h

/-- By append. -/
structure BImg (h : AHeap) (lo : Nat) (a : Option Addr) (n c : Nat) (bs : List (Nat × Nat)) (g : Grid) : Prop where
  apd : Apd h 1 a n c (List.zipWith rowV bs g)
  frm : From lo a
  img : OImg h lo a n bs g

theorem BImg.nil (h : AHeap) (lo : Nat) : BImg h lo none 0 0 [] [] where
  apd := .nil _ _
  frm := .none _
  img := { outer := ⟨rfl, rfl⟩, len := rfl, rows := (fun i p r hp => by simp at hp), inj := (fun i j p q hp => by simp at hp), apart := (fun ad p ha => by cases ha) }

theorem BImg.ext {h h' : AHeap} {lo : Nat} {a : Option Addr} {n c : Nat} {bs : List (Nat × Nat)} {g : Grid} (p : BImg h lo a n c bs g) (e : Ext h h') : BImg h' lo a n c bs g := ⟨p.apd.ext e, p.frm, p.img.ext e⟩

theorem BImg.add {h h1 : AHeap} {lo : Nat} {a : Option Addr} {n c : Nat} {bs : List (Nat × Nat)} {g : Grid} (p : BImg h lo a n c bs g) (hlo : lo ≤ h.next) (e : Ext h h1) {rb rn rc : Nat} {r : List Int} (hrb : h.next ≤ rb) (hown : Own h1 rb 1 (r.map (.int .i64))) (hlt : rb < h1.next) (hrn : r.length = rn) (hn : n < 1000000) :
    ∃ a' c' h', appendH Try.prog (h1.push 1 [.slice (some ⟨rb, 0, none⟩) rn rc]) [22, 22] [.slice a n c, .slice (some ⟨h1.next, 0, none⟩) 1 1] = some (.slice a' (n + 1) c', h') ∧ BImg h' lo a' (n + 1) c' (bs ++ [(rb, rc)]) (g ++ [r]) ∧ lo ≤ h'.next ∧ (∀ h0, Ext h0 h → h0.next ≤ lo → Ext h0 h') := by
  subst hrn
  have e2 : Ext h1 (h1.push 1 [rowV (rb, rc) r]) := .push _ _ _
  have e3 := e.trans e2
  have ho2 : Own (h1.push 1 [rowV (rb, rc) r]) h1.next 1 [rowV (rb, rc) r] := Own.push _ _ _
  have hnx : (h1.push 1 [rowV (rb, rc) r]).next = h1.next + 1 := rfl
  have hs : Cells (h1.push 1 [rowV (rb, rc) r]) (some ⟨h1.next, 0, none⟩) 1 1 [rowV (rb, rc) r] := ⟨rfl, by rw [hnx]; simp, by rw [ho2.readG (by simp)]; rfl⟩
  obtain ⟨a', c', h', q1, q2, q3, q4, q5, q6⟩ := append_keep T22 T22.und (p.apd.ext e3) hs (c2 := 1) (zip_ok bs g) rfl (by omega) (by omega)
  have hbl := p.img.len
  have hen := e.next
  have hout : ∀ ad, a = some ad → ad.block < h.next := fun ad had => by
    have := p.img.outer
    rw [had] at this
    exact this.2.1
  refine ⟨a', c', h', q1, ⟨by rw [zip_snoc bs g hbl]; exact q2, ?_, ?_⟩, by omega, fun h0 e0 hl => ?_⟩
  · intro ad had
    have := q5 ad had
    rw [hnx] at this
    omega
  · refine { outer := by rw [zip_snoc bs g hbl]; exact q2.cells, len := by simp [hbl], rows := ?_, inj := ?_, apart := ?_ }
    · intro i x s hx hs
      rcases snoc_get hx with ⟨hi, hx⟩ | ⟨hi, rfl⟩
      · rcases snoc_get hs with ⟨_, hs⟩ | ⟨hi', _⟩
        · obtain ⟨r1, r2, r3⟩ := p.img.rows i x s hx hs
          refine ⟨(r1.ext e3 r2).of_get (q6 _ (by rw [hnx]; omega) (fun ad had => p.img.apart ad x had (List.mem_of_getElem? hx))), by omega, r3⟩
        · omega
      · rcases snoc_get hs with ⟨hi', _⟩ | ⟨_, rfl⟩
        · omega
        · refine ⟨(hown.ext e2 hlt).of_get (q6 _ (by rw [hnx]; omega) (fun ad had => by have := hout ad had; omega)), by simp only []; omega, by simp only []; omega⟩
    · intro i j x y hx hy hxy
      rcases snoc_get hx with ⟨hi, hx⟩ | ⟨hi, rfl⟩ <;> rcases snoc_get hy with ⟨hj, hy⟩ | ⟨hj, rfl⟩
      · exact p.img.inj i j x y hx hy hxy
      · have hg := getD_some g i [] (by omega)
        have := (p.img.rows i x _ hx hg).2.1
        simp only [] at hxy
        omega
      · have hg := getD_some g j [] (by omega)
        have := (p.img.rows j y _ hy hg).2.1
        simp only [] at hxy
        omega
      · omega
    · intro ad x had hx
      have h9 := q5 ad had
      rw [hnx] at h9
      rcases List.mem_append.1 hx with hx | hx
      · obtain ⟨i, hi⟩ := List.getElem?_of_mem hx
        have hil : i < bs.length := (List.getElem?_eq_some_iff.1 hi).1
        have hg := getD_some g i [] (by omega)
        have := (p.img.rows i x _ hi hg).2.1
        omega
      · simp only [List.mem_singleton] at hx
        subst hx
        simp only []
        omega
  · exact (q3 h0 (e0.trans e3) (fun ad had => by have := p.frm ad had; omega)).1

/-- In a list that was made ahead. -/
structure FImg (h : AHeap) (lo B n : Nat) (bs : List (Nat × Nat)) (g : Grid) : Prop where
  outer : Own h B 1 (List.zipWith rowV bs g ++ List.replicate (n - g.length) (.slice none 0 0))
  lt : B < h.next
  frm : lo ≤ B
  gl : g.length ≤ n
  len : bs.length = g.length
  rows : ∀ (i : Nat) (p : Nat × Nat) (r : List Int), bs[i]? = some p → g[i]? = some r → Own h p.1 1 (r.map (.int .i64)) ∧ p.1 < h.next ∧ lo ≤ p.1
  inj : ∀ (i j : Nat) (p q : Nat × Nat), bs[i]? = some p → bs[j]? = some q → p.1 = q.1 → i = j
  apart : ∀ p, p ∈ bs → B ≠ p.1

theorem copies_nil (n : Nat) : copies [.slice none 0 0] n = List.replicate n (.slice none 0 0) := by
  induction n with
  | zero => rfl
  | succ n ih => rw [copies, ih]; rfl

theorem FImg.first (h : AHeap) {lo n : Nat} (hlo : lo ≤ h.next) : FImg (h.push 1 (copies [.slice none 0 0] n)) lo h.next n [] [] where
  outer := by rw [copies_nil]; exact Own.push _ _ _
  lt := by simp [AHeap.push]
  frm := hlo
  gl := by simp
  len := rfl
  rows := fun i p r hp => by simp at hp
  inj := fun i j p q hp => by simp at hp
  apart := fun p hp => by cases hp

theorem FImg.ext {h h' : AHeap} {lo B n : Nat} {bs : List (Nat × Nat)} {g : Grid} (p : FImg h lo B n bs g) (e : Ext h h') : FImg h' lo B n bs g where
  outer := p.outer.ext e p.lt
  lt := Nat.lt_of_lt_of_le p.lt e.next
  frm := p.frm
  gl := p.gl
  len := p.len
  rows := fun i x r hx hr => by
    obtain ⟨h1, h2, h3⟩ := p.rows i x r hx hr
    exact ⟨h1.ext e h2, Nat.lt_of_lt_of_le h2 e.next, h3⟩
  inj := p.inj
  apart := p.apart

theorem FImg.done {h : AHeap} {lo B n : Nat} {bs : List (Nat × Nat)} {g : Grid} (p : FImg h lo B n bs g) (hn : g.length = n) : OImg h lo (some ⟨B, 0, none⟩) n bs g where
  outer := by
    have ho := p.outer
    rw [hn, Nat.sub_self, List.replicate_zero, List.append_nil] at ho
    have hl : (List.zipWith rowV bs g).length = n := by simp [p.len, hn]
    refine ⟨rfl, p.lt, ?_⟩
    rw [Nat.mul_one, ho.readG (by omega), List.drop_zero, ← hl, List.take_length]
  len := p.len
  rows := p.rows
  inj := p.inj
  apart := fun ad x had hx => by cases had; exact p.apart x hx

/-- A row is put in. -/
theorem FImg.add {h h1 : AHeap} {lo B n : Nat} {bs : List (Nat × Nat)} {g : Grid} (p : FImg h lo B n bs g) (e : Ext h h1) {rb rn rc : Nat} {r : List Int} (hrb : h.next ≤ rb) (hown : Own h1 rb 1 (r.map (.int .i64))) (hlt : rb < h1.next) (hrn : r.length = rn) (hn : g.length < n) {i : Int} (hi : i = (g.length : Int)) (hlo : lo ≤ h.next) :
    ∃ h', h1.write B (0 + i.toNat * 1) [.slice (some ⟨rb, 0, none⟩) rn rc] = some h' ∧ FImg h' lo B n (bs ++ [(rb, rc)]) (g ++ [r]) ∧ Wrote h1 h' B := by
  subst hi hrn
  have hbl := p.len
  have hBl := p.lt
  have hzl : (List.zipWith rowV bs g).length = g.length := by simp [hbl]
  have hO := p.outer.ext e p.lt
  obtain ⟨h', w1, w2, w3⟩ := hO.write (o := g.length) (vs := [rowV (rb, rc) r]) (by simp [hzl]; omega)
  have hcell : (List.zipWith rowV bs g ++ List.replicate (n - g.length) (Value.slice none 0 0)).take g.length ++ ([rowV (rb, rc) r] ++ (List.zipWith rowV bs g ++ List.replicate (n - g.length) (Value.slice none 0 0)).drop (g.length + [rowV (rb, rc) r].length)) = List.zipWith rowV (bs ++ [(rb, rc)]) (g ++ [r]) ++ List.replicate (n - (g ++ [r]).length) (.slice none 0 0) := by
    rw [zip_snoc bs g hbl]
    have e1 : (List.zipWith rowV bs g ++ List.replicate (n - g.length) (Value.slice none 0 0)).take g.length = List.zipWith rowV bs g := by
      rw [← hzl, List.take_left]
    have e2 : (List.zipWith rowV bs g ++ List.replicate (n - g.length) (Value.slice none 0 0)).drop (g.length + [rowV (rb, rc) r].length) = List.replicate (n - (g ++ [r]).length) (Value.slice none 0 0) := by
      rw [List.drop_append, List.drop_eq_nil_of_le (by simp [hzl]), hzl]
      simp
      omega
    rw [e1, e2, List.append_assoc]
  rw [hcell] at w2
  refine ⟨h', by rw [Nat.zero_add, Nat.mul_one, Int.toNat_natCast]; exact w1, ?_, w3⟩
  refine { outer := w2, lt := by rw [w3.next]; have := e.next; omega, frm := p.frm, gl := by simp; omega, len := by simp [hbl], rows := ?_, inj := ?_, apart := ?_ }
  · intro i x s hx hs
    rcases snoc_get hx with ⟨hi, hx⟩ | ⟨hi, rfl⟩
    · rcases snoc_get hs with ⟨_, hs⟩ | ⟨hi', _⟩
      · obtain ⟨r1, r2, r3⟩ := p.rows i x s hx hs
        exact ⟨w3.own (r1.ext e r2) (fun q => p.apart x (List.mem_of_getElem? hx) q.symm), by rw [w3.next]; have := e.next; omega, r3⟩
      · omega
    · rcases snoc_get hs with ⟨hi', _⟩ | ⟨_, rfl⟩
      · omega
      · exact ⟨w3.own hown (by simp only []; omega), by rw [w3.next]; exact hlt, by simp only []; omega⟩
  · intro i j x y hx hy hxy
    rcases snoc_get hx with ⟨hi, hx⟩ | ⟨hi, rfl⟩ <;> rcases snoc_get hy with ⟨hj, hy⟩ | ⟨hj, rfl⟩
    · exact p.inj i j x y hx hy hxy
    · have hg := getD_some g i [] (by omega)
      have := (p.rows i x _ hx hg).2.1
      simp only [] at hxy
      omega
    · have hg := getD_some g j [] (by omega)
      have := (p.rows j y _ hy hg).2.1
      simp only [] at hxy
      omega
    · omega
  · intro x hx
    rcases List.mem_append.1 hx with hx | hx
    · exact p.apart x hx
    · simp only [List.mem_singleton] at hx
      subst hx
      simp only []
      omega

/-- A row is read. -/
theorem FImg.at {h : AHeap} {lo B n : Nat} {bs : List (Nat × Nat)} {g : Grid} (p : FImg h lo B n bs g) {i : Int} (h0 : 0 ≤ i) (hi : i < g.length) :
    ∃ rb rn rc, h.readG ⟨B, 0 + i.toNat * 1, none⟩ 1 = some [.slice (some ⟨rb, 0, none⟩) rn rc] ∧ (rowAt g i).length = rn ∧ bs[i.toNat]? = some (rb, rc) ∧ Own h rb 1 ((rowAt g i).map (.int .i64)) ∧ rb < h.next ∧ lo ≤ rb ∧ B ≠ rb := by
  have hbl := p.len
  have hx := getD_some bs i.toNat (0, 0) (by omega)
  have hr := rowAt_eq (g := g) h0 (by omega)
  obtain ⟨q1, q2, q3⟩ := p.rows _ _ _ hx hr
  have hzl : (List.zipWith rowV bs g).length = g.length := by simp [hbl]
  refine ⟨_, _, _, ?_, rfl, hx, q1, q2, q3, p.apart _ (List.mem_of_getElem? hx)⟩
  rw [Nat.zero_add, Nat.mul_one, p.outer.readG (by simp [hzl]; omega)]
  rw [take_one _ i.toNat (rowV (bs.getD i.toNat (0, 0)) (rowAt g i)) (by rw [List.getElem?_append_left (by omega), List.getElem?_zipWith, hx, hr])]
  rfl

/-- A row is written. -/
theorem FImg.setR {h h' : AHeap} {lo B n : Nat} {bs : List (Nat × Nat)} {g : Grid} (p : FImg h lo B n bs g) {v : Int} (hv0 : 0 ≤ v) (hv1 : v < g.length) {rb rc : Nat} (hb : bs[v.toNat]? = some (rb, rc)) {r : List Int} (hr : r.length = (rowAt g v).length) (ho : Own h' rb 1 (r.map (.int .i64))) (hw : Wrote h h' rb) : FImg h' lo B n bs (g.set v.toNat r) := by
  have hbl := p.len
  have hgl : (g.set v.toNat r).length = g.length := by simp
  refine { outer := ?_, lt := by rw [hw.next]; exact p.lt, frm := p.frm, gl := by rw [hgl]; exact p.gl, len := by rw [hgl]; exact hbl, rows := ?_, inj := p.inj, apart := p.apart }
  · have e : List.zipWith rowV bs (g.set v.toNat r) = List.zipWith rowV bs g := by
      apply List.ext_getElem?
      intro i
      rw [List.getElem?_zipWith, List.getElem?_zipWith, List.getElem?_set]
      by_cases e : v.toNat = i
      · subst e
        rw [if_pos rfl, if_pos (by omega), rowAt_eq hv0 (by omega)]
        cases bs[v.toNat]? with
        | none => rfl
        | some q => simp only [rowV, hr]
      · rw [if_neg e]
    rw [e, hgl]
    exact hw.own p.outer (fun e => p.apart (rb, rc) (List.mem_of_getElem? hb) e)
  · intro i q s hq hs
    rw [List.getElem?_set] at hs
    by_cases e : v.toNat = i
    · subst e
      rw [if_pos rfl, if_pos (by omega)] at hs
      simp only [Option.some.injEq] at hs
      subst hs
      rw [hb] at hq
      obtain rfl := Option.some.inj hq
      obtain ⟨q1, q2, q3⟩ := p.rows _ _ _ hb (rowAt_eq hv0 (by omega))
      exact ⟨ho, by rw [hw.next]; exact q2, q3⟩
    · rw [if_neg e] at hs
      obtain ⟨q1, q2, q3⟩ := p.rows _ _ _ hq hs
      exact ⟨hw.own q1 (fun e2 => e (p.inj _ _ _ _ hq hb e2).symm), by rw [hw.next]; exact q2, q3⟩

end Go.Proofs.Ytogofeppflindaa
