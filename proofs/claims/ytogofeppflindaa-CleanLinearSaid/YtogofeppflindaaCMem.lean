/-
  IMAGES OF ONE'S OWN: rows in blocks of their own, which may be written; grids made of their cells.
-/
import Derived.Test.YtogofeppflindaaCShape
import Derived.KernelRfl
namespace Go.Proofs.Ytogofeppflindaa
open Go.Sim
set_option linter.unusedVariables false
set_option maxRecDepth 100000

theorem T22 : SliceT Try.prog 22 52 1 := ⟨by kernel_rfl, by kernel_rfl, ⟨24, by kernel_rfl, by omega⟩, ⟨.slice none 0 0, by kernel_rfl, rfl⟩⟩
theorem T52 : SliceT Try.prog 52 3 1 := ⟨by kernel_rfl, by kernel_rfl, ⟨8, by kernel_rfl, by omega⟩, ⟨.int .i64 0, by kernel_rfl, rfl⟩⟩
theorem T27 : SliceT Try.prog 27 56 3 := ⟨by kernel_rfl, by kernel_rfl, ⟨24, by kernel_rfl, by omega⟩, ⟨.agg #[.int .i64 0, .int .i64 0, .int .i64 0], by kernel_rfl, rfl⟩⟩

/-! ### Grids -/

/-- n lists of n. -/
def shp (g : Grid) (n : Int) : Prop := (g.length : Int) = n ∧ ∀ y : Int, 0 ≤ y → y < n → ((rowAt g y).length : Int) = n
def mkG (n : Int) (f : Int → Int → Int) : Grid := (List.range n.toNat).map fun (y : Nat) => (List.range n.toNat).map fun (x : Nat) => f y x
def setC (g : Grid) (v u x : Int) : Grid := g.set v.toNat ((rowAt g v).set u.toNat x)

theorem rowAt_eq {g : Grid} {i : Int} (h0 : 0 ≤ i) (h1 : i < g.length) : g[i.toNat]? = some (rowAt g i) := getD_some g i.toNat [] (by omega)

theorem mkG_row (n : Int) (f : Int → Int → Int) {y : Int} (h0 : 0 ≤ y) (h1 : y < n) : rowAt (mkG n f) y = (List.range n.toNat).map fun (x : Nat) => f y x := by
  have : (mkG n f)[y.toNat]? = some ((List.range n.toNat).map fun (x : Nat) => f y x) := by
    unfold mkG
    rw [List.getElem?_map, List.getElem?_range (by omega)]
    simp only [Option.map_some, Int.toNat_of_nonneg h0]
  unfold rowAt
  rw [List.getD, this]; rfl
theorem mkG_shp {n : Int} (hn : 0 ≤ n) (f : Int → Int → Int) : shp (mkG n f) n := by
  refine ⟨by unfold mkG; simp; omega, fun y h0 h1 => ?_⟩
  rw [mkG_row n f h0 h1]; simp; omega
theorem mkG_cell {n : Int} (f : Int → Int → Int) {y x : Int} (hy0 : 0 ≤ y) (hy1 : y < n) (hx0 : 0 ≤ x) (hx1 : x < n) : cell (mkG n f) y x = f y x := by
  unfold cell
  rw [mkG_row n f hy0 hy1]
  exact at'_range n.toNat (fun x => f y x) hx0 (by omega)

theorem shp_ext {g g' : Grid} {n : Int} (h : shp g n) (h' : shp g' n) (hc : ∀ y x : Int, 0 ≤ y → y < n → 0 ≤ x → x < n → cell g y x = cell g' y x) : g = g' := by
  have hl := h.1
  have hl' := h'.1
  apply List.ext_getElem?
  intro i
  by_cases hi : i < g.length
  · have e1 := rowAt_eq (g := g) (i := (i : Int)) (by omega) (by omega)
    have e2 := rowAt_eq (g := g') (i := (i : Int)) (by omega) (by omega)
    simp only [Int.toNat_natCast] at e1 e2
    rw [e1, e2]
    congr 1
    have r1 := h.2 i (by omega) (by omega)
    have r2 := h'.2 i (by omega) (by omega)
    exact list_ext' (by omega) (fun x h0 h1 => hc i x (by omega) (by omega) h0 (by omega))
  · rw [List.getElem?_eq_none (by omega), List.getElem?_eq_none (by omega)]

theorem setC_len (g : Grid) (v u x : Int) : (setC g v u x).length = g.length := by unfold setC; simp
theorem rowAt_setC {g : Grid} {v u x y : Int} (hv0 : 0 ≤ v) (hv1 : v < g.length) (hy0 : 0 ≤ y) (hy1 : y < g.length) : rowAt (setC g v u x) y = if y = v then (rowAt g v).set u.toNat x else rowAt g y := by
  unfold rowAt setC
  rw [List.getD, List.getElem?_set]
  by_cases e : y = v
  · subst e
    rw [if_pos rfl, if_pos rfl, if_pos (by omega)]; rfl
  · rw [if_neg (by omega), if_neg e]; rfl
theorem setC_shp {g : Grid} {n v u x : Int} (h : shp g n) (hv0 : 0 ≤ v) (hv1 : v < n) : shp (setC g v u x) n := by
  have hl := h.1
  refine ⟨by rw [setC_len]; exact hl, fun y h0 h1 => ?_⟩
  rw [rowAt_setC hv0 (by omega) h0 (by omega)]
  split
  · rw [List.length_set]; exact h.2 v hv0 hv1
  · exact h.2 y h0 h1
theorem cell_setC {g : Grid} {n v u x y z : Int} (h : shp g n) (hv0 : 0 ≤ v) (hv1 : v < n) (hu0 : 0 ≤ u) (hu1 : u < n) (hy0 : 0 ≤ y) (hy1 : y < n) (hz0 : 0 ≤ z) : cell (setC g v u x) y z = if y = v ∧ z = u then x else cell g y z := by
  have hl := h.1
  unfold cell
  rw [rowAt_setC hv0 (by omega) hy0 (by omega)]
  by_cases e : y = v
  · subst e
    rw [if_pos rfl, at'_set _ hu0 hz0 (by have := h.2 y hy0 hy1; omega)]
    simp
  · rw [if_neg e, if_neg (fun q => e q.1)]

theorem squareP_shp {g : Grid} {n most : Int} (h : squareP g n most) : shp g n := ⟨h.1, fun y h0 h1 => (h.2 y h0 h1).1⟩
theorem squareP_iff {g : Grid} {n most : Int} : squareP g n most ↔ shp g n ∧ ∀ y x : Int, 0 ≤ y → y < n → 0 ≤ x → x < n → within most (cell g y x) :=
  ⟨fun h => ⟨squareP_shp h, fun y x h0 h1 h2 h3 => (h.2 y h0 h1).2 x h2 h3⟩, fun h => ⟨h.1.1, fun y h0 h1 => ⟨h.1.2 y h0 h1, fun x h2 h3 => h.2 y x h0 h1 h2 h3⟩⟩⟩

/-! ### In memory -/

def rowV (p : Nat × Nat) (r : List Int) : Value := .slice (some ⟨p.1, 0, none⟩) r.length p.2

structure OImg (h : AHeap) (lo : Nat) (a : Option Addr) (n : Nat) (bs : List (Nat × Nat)) (g : Grid) : Prop where
  outer : Cells h a n 1 (List.zipWith rowV bs g)
  len : bs.length = g.length
  rows : ∀ (i : Nat) (p : Nat × Nat) (r : List Int), bs[i]? = some p → g[i]? = some r → Own h p.1 1 (r.map (.int .i64)) ∧ p.1 < h.next ∧ lo ≤ p.1
  inj : ∀ (i j : Nat) (p q : Nat × Nat), bs[i]? = some p → bs[j]? = some q → p.1 = q.1 → i = j
  apart : ∀ ad p, a = some ad → p ∈ bs → ad.block ≠ p.1

theorem OImg.glen {h : AHeap} {lo : Nat} {a : Option Addr} {n : Nat} {bs : List (Nat × Nat)} {g : Grid} (p : OImg h lo a n bs g) : g.length = n := by
  have := p.outer.length
  rw [List.length_zipWith] at this
  have := p.len
  omega

theorem Cells.of_get {h h' : AHeap} {a : Option Addr} {n es : Nat} {cells : List Value} (c : Cells h a n es cells) (hn : h.next ≤ h'.next) (e : ∀ ad, a = some ad → ad.block < h.next → h'.m.get ad.block = h.m.get ad.block) : Cells h' a n es cells := by
  cases a with
  | none => exact c
  | some ad =>
    obtain ⟨h1, h2, h3⟩ := c
    refine ⟨h1, by omega, ?_⟩
    unfold AHeap.readG AHeap.cells? at h3 ⊢
    rw [e ad rfl h2]
    exact h3

theorem OImg.of_get {h h' : AHeap} {lo : Nat} {a : Option Addr} {n : Nat} {bs : List (Nat × Nat)} {g : Grid} (p : OImg h lo a n bs g) (hn : h.next ≤ h'.next) (e : ∀ ad, a = some ad → ad.block < h.next → h'.m.get ad.block = h.m.get ad.block) (er : ∀ x ∈ bs, x.1 < h.next → h'.m.get x.1 = h.m.get x.1) : OImg h' lo a n bs g where
  outer := Cells.of_get p.outer hn e
  len := p.len
  rows := fun i x r hx hr => by
    obtain ⟨h1, h2, h3⟩ := p.rows i x r hx hr
    exact ⟨h1.of_get (er x (List.mem_of_getElem? hx) h2), by omega, h3⟩
  inj := p.inj
  apart := p.apart

theorem OImg.ext {h h' : AHeap} {lo : Nat} {a : Option Addr} {n : Nat} {bs : List (Nat × Nat)} {g : Grid} (p : OImg h lo a n bs g) (k : Ext h h') : OImg h' lo a n bs g :=
  p.of_get k.next (fun ad _ hb => k.get _ hb) (fun x _ hb => k.get _ hb)

theorem OImg.lower {h : AHeap} {lo lo' : Nat} {a : Option Addr} {n : Nat} {bs : List (Nat × Nat)} {g : Grid} (p : OImg h lo a n bs g) (hl : lo' ≤ lo) : OImg h lo' a n bs g :=
  { p with rows := fun i x r hx hr => by obtain ⟨h1, h2, h3⟩ := p.rows i x r hx hr; exact ⟨h1, h2, by omega⟩ }

theorem OImg.at {h : AHeap} {lo : Nat} {a : Option Addr} {n : Nat} {bs : List (Nat × Nat)} {g : Grid} (p : OImg h lo a n bs g) {i : Int} (h0 : 0 ≤ i) (hi : i < n) :
    ∃ b o rb rn rc, a = some ⟨b, o, none⟩ ∧ b < h.next ∧ h.readG ⟨b, o + i.toNat * 1, none⟩ 1 = some [.slice (some ⟨rb, 0, none⟩) rn rc] ∧ (rowAt g i).length = rn ∧ bs[i.toNat]? = some (rb, rc) ∧ Own h rb 1 ((rowAt g i).map (.int .i64)) ∧ rb < h.next ∧ lo ≤ rb ∧ b ≠ rb := by
  have hl := p.glen
  have hbl := p.len
  obtain ⟨b, o, h4, h5, h6⟩ := p.outer.at (i := i.toNat) (m := 1) (by omega) (by omega)
  have hx := getD_some bs i.toNat (0, 0) (by omega)
  have hr := rowAt_eq (g := g) h0 (by omega)
  obtain ⟨q1, q2, q3⟩ := p.rows _ _ _ hx hr
  refine ⟨b, o, _, _, _, h4, h5, ?_, rfl, hx, q1, q2, q3, fun e => ?_⟩
  · rw [Nat.mul_one, h6]
    rw [take_one (List.zipWith rowV bs g) i.toNat (rowV (bs.getD i.toNat (0, 0)) (rowAt g i)) (by rw [List.getElem?_zipWith, hx, hr])]
    rfl
  · exact p.apart _ _ h4 (List.mem_of_getElem? hx) e

/-- One's own image may be read. -/
theorem OImg.img {h : AHeap} {lo : Nat} {a : Option Addr} {n : Nat} {bs : List (Nat × Nat)} {g : Grid} (p : OImg h lo a n bs g) : Img h a n g := by
  have hl := p.glen
  have hbl := p.len
  refine ⟨List.zipWith (fun q r => ⟨some ⟨q.1, 0, none⟩, r.length, q.2⟩) bs g, ?_, by simp [hbl], ?_⟩
  · have := p.outer
    rw [List.map_zipWith]
    exact this
  · intro i x r hx hr
    rw [List.getElem?_zipWith] at hx
    cases hq : bs[i]? with
    | none => rw [hq] at hx; cases hx
    | some q =>
      rw [hq, hr] at hx
      simp only [Option.some.injEq] at hx
      subst hx
      obtain ⟨q1, q2, q3⟩ := p.rows i q r hq hr
      refine .inl ⟨?_, fun e => by cases e⟩
      exact q1.ints q2 rfl

/-- A cell is written. -/
theorem OImg.set {h h' : AHeap} {lo : Nat} {a : Option Addr} {n : Nat} {bs : List (Nat × Nat)} {g : Grid} (p : OImg h lo a n bs g) {v u x : Int} (hv0 : 0 ≤ v) (hv1 : v < n) {rb rc : Nat} (hb : bs[v.toNat]? = some (rb, rc)) (ho : Own h' rb 1 (((rowAt g v).set u.toNat x).map (.int .i64))) (hw : Wrote h h' rb) : OImg h' lo a n bs (setC g v u x) := by
  have hl := p.glen
  have hbl := p.len
  have hgl : (setC g v u x).length = g.length := setC_len g v u x
  refine { outer := ?_, len := by rw [hgl]; exact hbl, rows := ?_, inj := p.inj, apart := p.apart }
  · have e : List.zipWith rowV bs (setC g v u x) = List.zipWith rowV bs g := by
      apply List.ext_getElem?
      intro i
      rw [List.getElem?_zipWith, List.getElem?_zipWith]
      unfold setC
      rw [List.getElem?_set]
      by_cases e : v.toNat = i
      · subst e
        rw [if_pos rfl, if_pos (by omega), rowAt_eq hv0 (by omega)]
        cases bs[v.toNat]? with
        | none => rfl
        | some q => simp only [rowV, List.length_set]
      · rw [if_neg e]
    rw [e]
    exact hw.cells p.outer (fun ad had e => p.apart ad (rb, rc) had (List.mem_of_getElem? hb) e)
  · intro i q r hq hr
    unfold setC at hr
    rw [List.getElem?_set] at hr
    by_cases e : v.toNat = i
    · subst e
      rw [if_pos rfl, if_pos (by omega)] at hr
      simp only [Option.some.injEq] at hr
      subst hr
      rw [hb] at hq
      obtain rfl := Option.some.inj hq
      obtain ⟨q1, q2, q3⟩ := p.rows _ _ _ hb (rowAt_eq hv0 (by omega))
      exact ⟨ho, by rw [hw.next]; exact q2, q3⟩
    · rw [if_neg e] at hr
      obtain ⟨q1, q2, q3⟩ := p.rows _ _ _ hq hr
      exact ⟨hw.own q1 (fun e2 => e (p.inj _ _ _ _ hq hb e2).symm), by rw [hw.next]; exact q2, q3⟩

/-- A cell is written, all at once. -/
theorem OImg.write {h : AHeap} {lo : Nat} {a : Option Addr} {n : Nat} {bs : List (Nat × Nat)} {g : Grid} (p : OImg h lo a n bs g) {v u : Int} (hv0 : 0 ≤ v) (hv1 : v < n) (hu0 : 0 ≤ u) (hu1 : u < (rowAt g v).length) (x : Int) {rb rc : Nat} (hb : bs[v.toNat]? = some (rb, rc)) :
    ∃ h', h.write rb (0 + u.toNat * 1) [.int .i64 x] = some h' ∧ OImg h' lo a n bs (setC g v u x) ∧ Wrote h h' rb := by
  have hl := p.glen
  obtain ⟨q1, q2, q3⟩ := p.rows _ _ _ hb (rowAt_eq hv0 (by omega))
  obtain ⟨h', h1, h2, h3⟩ := q1.setInt (i := u.toNat) (by omega) x
  exact ⟨h', by rw [Nat.zero_add, Nat.mul_one]; exact h1, p.set hv0 hv1 hb h2 h3, h3⟩

end Go.Proofs.Ytogofeppflindaa
