/-
  PLAIN LAWS OF CLEANINGS AND LOGS: no program in sight.
-/
import Derived.Test.YtogofeppflindaaCRunsA
namespace Go.Proofs.Ytogofeppflindaa
open Go.Sim
set_option linter.unusedVariables false
set_option maxRecDepth 100000

/-- What a component takes from a cell. -/
def takes (bm : Grid) (n : Int) (p : Comp) (y x : Int) : Int := p.f * cell bm (y - p.y + n - 1) (x - p.x + n - 1)
def tot (bm : Grid) (n : Int) : List Comp → Int → Int → Int
  | [], _, _ => 0
  | p :: l, y, x => takes bm n p y x + tot bm n l y x
theorem tot_append (bm : Grid) (n : Int) (l m : List Comp) (y x : Int) : tot bm n (l ++ m) y x = tot bm n l y x + tot bm n m y x := by
  induction l with
  | nil => simp [tot]
  | cons p l ih => simp only [List.cons_append, tot, ih]; omega

theorem Runs.folds {bm : Grid} {n : Int} {c : Cln} {k : Nat} {g : Grid} {r : Option (Grid × List Comp)} (h : Runs bm n c k g r) : ∀ g' l, r = some (g', l) → Folds bm n g l (some g') := by
  induction h with
  | out g => intro g' l q; cases q; exact .nil _
  | low t q => intro g' l q; cases q; exact .nil _
  | stop t q w => intro g' l q; cases q
  | fail t q w s ih => intro g' l q; cases q
  | go t q w s ih => intro g' l e; cases e; exact .go w (ih _ _ rfl)

theorem Folds.cells {bm : Grid} {n : Int} {g : Grid} {l : List Comp} {r : Option Grid} (h : Folds bm n g l r) : ∀ g', r = some g' → ∀ y x : Int, 0 ≤ y → y < n → 0 ≤ x → x < n → cell g' y x = cell g y x - tot bm n l y x := by
  induction h with
  | nil g => intro g' q y x _ _ _ _; cases q; simp [tot]
  | stop w => intro g' q; cases q
  | go w s ih =>
    intro g' q y x h1 h2 h3 h4
    rw [ih g' q y x h1 h2 h3 h4]
    unfold subG
    rw [mkG_cell _ h1 h2 h3 h4]
    simp only [tot, subC, takes]
    omega
theorem Folds.square {bm : Grid} {n : Int} (n1 : 1 ≤ n) {g : Grid} {l : List Comp} {r : Option Grid} (h : Folds bm n g l r) : squareP g n 1000000000 → ∀ g', r = some g' → squareP g' n 1000000000 := by
  induction h with
  | nil g => intro hs g' q; cases q; exact hs
  | stop w => intro hs g' q; cases q
  | go w s ih => intro hs g' q; exact ih ((left_square n1).2 w) g' q
theorem Folds.append {bm : Grid} {n : Int} {g : Grid} {l : List Comp} {r : Option Grid} (h : Folds bm n g l r) : ∀ g1 m r', r = some g1 → Folds bm n g1 m r' → Folds bm n g (l ++ m) r' := by
  induction h with
  | nil g => intro g1 m r' q h'; cases q; exact h'
  | stop w => intro g1 m r' q; cases q
  | go w s ih => intro g1 m r' q h'; exact .go w (ih g1 m r' q h')

/-! ### The beam is nowhere less than 0 -/

theorem Runs.sinks {bm : Grid} {n : Int} {c : Cln} (hb : beamP bm n) (hc : clnP c) (n1 : 1 ≤ n) (hpos : ∀ y x : Int, 0 ≤ y → y < 2 * n - 1 → 0 ≤ x → x < 2 * n - 1 → 0 ≤ cell bm y x) {g g' : Grid} {l : List Comp} {k : Nat} (hs : squareP g n 1000000000) (h : Runs bm n c k g (some (g', l))) {y x : Int} (y0 : 0 ≤ y) (y1 : y < n) (x0 : 0 ≤ x) (x1 : x < n) :
    cell g' y x ≤ cell g y x ∧ ((∀ p ∈ l, cell bm (y - p.y + n - 1) (x - p.x + n - 1) = 0) → cell g' y x = cell g y x) := by
  have hcell := (h.folds _ _ rfl).cells g' rfl y x y0 y1 x0 x1
  have hf := (Runs.facts hb hc n1 h hs _ _ rfl).2.2
  have key : ∀ l : List Comp, (∀ p ∈ l, compP n p ∧ 1 ≤ p.f) → 0 ≤ tot bm n l y x ∧ ((∀ p ∈ l, cell bm (y - p.y + n - 1) (x - p.x + n - 1) = 0) → tot bm n l y x = 0) := by
    intro l
    induction l with
    | nil => intro _; exact ⟨by simp [tot], fun _ => rfl⟩
    | cons p l ih =>
      intro hp
      obtain ⟨i1, i2⟩ := ih (fun q hq => hp q (List.mem_cons_of_mem _ hq))
      obtain ⟨⟨p1, p2, p3, p4, _⟩, p6⟩ := hp p (List.mem_cons_self ..)
      have b0 := hpos (y - p.y + n - 1) (x - p.x + n - 1) (by omega) (by omega) (by omega) (by omega)
      have : 0 ≤ takes bm n p y x := Int.mul_nonneg (by omega) b0
      refine ⟨by simp only [tot]; omega, fun hz => ?_⟩
      simp only [tot, takes, hz p (List.mem_cons_self ..), Int.mul_zero, Int.zero_add]
      exact i2 (fun q hq => hz q (List.mem_cons_of_mem _ hq))
  obtain ⟨k1, k2⟩ := key l hf
  exact ⟨by omega, fun hz => by have := k2 hz; omega⟩

/-! ### Less steps -/

theorem Runs.cong {bm : Grid} {n : Int} {c c' : Cln} (h1 : c.num = c'.num) (h2 : c.den = c'.den) (h3 : c.floor = c'.floor) {k : Nat} {g : Grid} {r : Option (Grid × List Comp)} (h : Runs bm n c k g r) : Runs bm n c' k g r := by
  have hf : ∀ b, flux bm n c b = flux bm n c' b := fun b => by unfold flux; rw [h1, h2]
  have hp : ∀ g x y, pAt bm n c g x y = pAt bm n c' g x y := fun g x y => by unfold pAt; rw [hf]
  have hl : ∀ g x y, lowP bm n c g x y ↔ lowP bm n c' g x y := fun g x y => by unfold lowP; rw [hf, h3]
  induction h with
  | out g => exact .out g
  | low t q => exact .low t ((hl _ _ _).1 q)
  | stop t q w => exact .stop t (fun e => q ((hl _ _ _).2 e)) (by rw [← hp]; exact w)
  | fail t q w s ih => exact .fail t (fun e => q ((hl _ _ _).2 e)) (by rw [← hp]; exact w) (by rw [← hp]; exact ih)
  | go t q w s ih => rw [hp]; exact .go t (fun e => q ((hl _ _ _).2 e)) (by rw [← hp]; exact w) (by rw [← hp]; exact ih)

theorem Runs.less {bm : Grid} {n : Int} {c : Cln} {k : Nat} {g : Grid} {r : Option (Grid × List Comp)} (h : Runs bm n c k g r) : ∀ g' l, r = some (g', l) → ∀ j, j ≤ k → ∃ g'', Runs bm n c j g (some (g'', l.take j)) ∧ (l.length ≤ j → g'' = g') := by
  induction h with
  | out g =>
    intro g' l q j hj
    cases q
    obtain rfl : j = 0 := by omega
    exact ⟨_, .out _, fun _ => rfl⟩
  | @low k g x y t q =>
    intro g' l e j hj; cases e
    refine ⟨_, ?_, fun _ => rfl⟩
    rw [List.take_nil]
    cases j with
    | zero => exact .out _
    | succ j => exact .low t q
  | stop t q w => intro g' l q; cases q
  | fail t q w s ih => intro g' l q; cases q
  | @go k g x y g1 l1 t q w s ih =>
    intro g' l e j hj; cases e
    cases j with
    | zero => exact ⟨g, by simp only [List.take_zero]; exact .out _, fun h => by simp at h⟩
    | succ j =>
      obtain ⟨g'', r1, r2⟩ := ih _ _ rfl j (by omega)
      exact ⟨g'', by simp only [List.take_succ_cons]; exact .go t q w r1, fun h => r2 (by simpa using h)⟩

theorem Runs.ends {bm : Grid} {n : Int} {c : Cln} {k : Nat} {g : Grid} {r : Option (Grid × List Comp)} (h : Runs bm n c k g r) : ∀ g' l, r = some (g', l) → l.length = k ∨ ∃ x y, Top g' n n 0 x y ∧ lowP bm n c g' x y := by
  induction h with
  | out g => intro g' l q; cases q; exact .inl rfl
  | low t q => intro g' l e; cases e; exact .inr ⟨_, _, t, q⟩
  | stop t q w => intro g' l q; cases q
  | fail t q w s ih => intro g' l q; cases q
  | go t q w s ih =>
    intro g' l e; cases e
    rcases ih _ _ rfl with i | i
    · exact .inl (by simp [i])
    · exact .inr i

/-! ### Models -/

def herev (p : Comp) (y x : Int) : Int := if y = p.y ∧ x = p.x then p.f else 0
def here : List Comp → Int → Int → Int
  | [], _, _ => 0
  | p :: l, y, x => herev p y x + here l y x
theorem here_append (l m : List Comp) (y x : Int) : here (l ++ m) y x = here l y x + here m y x := by
  induction l with
  | nil => simp [here]
  | cons p l ih => simp only [List.cons_append, here, ih]; omega
theorem take_getD (l : List Comp) (i : Nat) (h : i < l.length) : l.take (i + 1) = l.take i ++ [l.getD i ⟨0, 0, 0⟩] := by
  rw [List.take_add_one, List.getElem?_eq_getElem h, List.getD, List.getElem?_eq_getElem h]; rfl

theorem addP_eq (s : Int → Int → Int) (p : Comp) (y x : Int) : addP s p y x = s y x + herev p y x := by
  unfold addP herev; split <;> omega
theorem sums_here (l : List Comp) : ∀ i : Nat, i ≤ l.length → ∀ y x : Int, sums l i y x = here (l.take i) y x := by
  intro i
  induction i with
  | zero => intro _ y x; simp [sums, here]
  | succ i ih =>
    intro h y x
    rw [take_getD l i (by omega), here_append]
    show addP (sums l i) (l.getD i ⟨0, 0, 0⟩) y x = _
    rw [addP_eq, ih (by omega)]
    simp [here]
theorem sums_all (l : List Comp) (y x : Int) : sums l l.length y x = here l y x := by
  rw [sums_here l l.length (Nat.le_refl _), List.take_length]

theorem row_addP {s : Int → Int → Int} {bm : Grid} {n y x v : Int} {p : Comp} (v0 : 0 ≤ v) (v1 : v < n) : ∀ u : Nat, (u : Int) ≤ n → rowS (mkG n (addP s p)) bm n y x v u = rowS (mkG n s) bm n y x v u + (if v = p.y ∧ 0 ≤ p.x ∧ p.x < u then takes bm n p y x else 0) := by
  intro u
  induction u with
  | zero => intro _; simp only [rowS]; rw [if_neg (by omega)]; rfl
  | succ u ih =>
    intro h
    simp only [rowS, term]
    rw [ih (by omega), mkG_cell _ v0 v1 (by omega) (by omega), mkG_cell _ v0 v1 (by omega) (by omega), addP_eq, Int.add_mul]
    unfold herev
    by_cases e : v = p.y ∧ (u : Int) = p.x
    · rw [if_pos e, if_neg (by omega), if_pos (by omega)]
      unfold takes
      rw [← e.1, ← e.2]
      omega
    · rw [if_neg e]
      by_cases e2 : v = p.y ∧ 0 ≤ p.x ∧ p.x < u
      · rw [if_pos e2, if_pos (by omega)]; omega
      · rw [if_neg e2, if_neg (by omega)]; omega
theorem all_addP {s : Int → Int → Int} {bm : Grid} {n y x : Int} {p : Comp} (x0 : 0 ≤ p.x) (x1 : p.x < n) (y0 : 0 ≤ p.y) : ∀ v : Nat, (v : Int) ≤ n → allS (mkG n (addP s p)) bm n y x v = allS (mkG n s) bm n y x v + (if p.y < v then takes bm n p y x else 0) := by
  intro v
  induction v with
  | zero => intro _; simp only [allS]; rw [if_neg (by omega)]; rfl
  | succ v ih =>
    intro h
    simp only [allS]
    rw [ih (by omega), row_addP (by omega) (by omega) n.toNat (by omega)]
    by_cases e : (v : Int) = p.y
    · rw [if_neg (by omega), if_pos (by omega), if_pos (by omega)]; omega
    · rw [if_neg (by omega : ¬ ((v : Int) = p.y ∧ 0 ≤ p.x ∧ p.x < (n.toNat : Int)))]
      by_cases e2 : p.y < v
      · rw [if_pos e2, if_pos (by omega)]; omega
      · rw [if_neg e2, if_neg (by omega)]; omega
theorem conv_addP {s : Int → Int → Int} {bm : Grid} {n y x : Int} {p : Comp} (x0 : 0 ≤ p.x) (x1 : p.x < n) (y0 : 0 ≤ p.y) (y1 : p.y < n) : convS (mkG n (addP s p)) bm n y x = convS (mkG n s) bm n y x + takes bm n p y x := by
  unfold convS accS
  rw [all_addP x0 x1 y0 n.toNat (by omega), if_pos (by omega)]
  show _ + rowS _ bm n y x n 0 = _ + rowS _ bm n y x n 0 + _
  simp only [rowS]
  omega
theorem conv_zero {bm : Grid} {n y x : Int} (n0 : 0 ≤ n) : convS (mkG n fun _ _ => 0) bm n y x = 0 := by
  have hr : ∀ v : Int, 0 ≤ v → v < n → ∀ u : Nat, (u : Int) ≤ n → rowS (mkG n fun _ _ => 0) bm n y x v u = 0 := by
    intro v v0 v1 u
    induction u with
    | zero => intro _; rfl
    | succ u ih =>
      intro h
      simp only [rowS, term]
      rw [ih (by omega), mkG_cell _ v0 v1 (by omega) (by omega), Int.zero_mul]; rfl
  have ha : ∀ v : Nat, (v : Int) ≤ n → allS (mkG n fun _ _ => 0) bm n y x v = 0 := by
    intro v
    induction v with
    | zero => intro _; rfl
    | succ v ih =>
      intro h
      simp only [allS]
      rw [ih (by omega), hr _ (by omega) (by omega) _ (by omega)]; rfl
  unfold convS accS
  rw [ha _ (by omega)]
  rfl
theorem conv_sums {bm : Grid} {n : Int} (n0 : 0 ≤ n) {l : List Comp} (hl : ∀ p ∈ l, compP n p) (y x : Int) : ∀ i : Nat, i ≤ l.length → convS (mkG n (sums l i)) bm n y x = tot bm n (l.take i) y x := by
  intro i
  induction i with
  | zero => intro _; simp only [List.take_zero, tot]; exact conv_zero n0
  | succ i ih =>
    intro h
    have hm : l.getD i ⟨0, 0, 0⟩ ∈ l := by
      rw [List.getD, List.getElem?_eq_getElem (by omega)]
      exact List.getElem_mem _
    obtain ⟨p1, p2, p3, p4, _⟩ := hl _ hm
    rw [take_getD l i (by omega), tot_append]
    show convS (mkG n (addP (sums l i) (l.getD i ⟨0, 0, 0⟩))) bm n y x = _
    rw [conv_addP p1 p2 p3 p4, ih (by omega)]
    simp only [tot, Int.add_zero]

/-! ### Logs -/

theorem logP_of {n : Int} {l : List Comp} (h1 : l.length ≤ 100) (h2 : ∀ p ∈ l, compP n p) : logP n l := by
  refine ⟨by omega, fun i i0 i1 => h2 _ ?_⟩
  unfold ca
  rw [List.getD, List.getElem?_eq_getElem (by omega)]
  exact List.getElem_mem _
theorem logP_mem {n : Int} {l : List Comp} (h : logP n l) : ∀ p ∈ l, compP n p := by
  intro p hp
  obtain ⟨i, hi⟩ := List.getElem?_of_mem hp
  have hil : i < l.length := (List.getElem?_eq_some_iff.1 hi).1
  have := h.2 i (by omega) (by omega)
  unfold ca at this
  rw [Int.toNat_natCast, List.getD, hi] at this
  exact this

end Go.Proofs.Ytogofeppflindaa
