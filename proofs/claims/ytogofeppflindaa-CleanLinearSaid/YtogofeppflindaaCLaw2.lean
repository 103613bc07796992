/-
  PLAIN LAWS OF LOGS THAT ARE NOT GREAT.
-/
import Derived.Test.YtogofeppflindaaCLaw
namespace Go.Proofs.Ytogofeppflindaa
open Go.Sim
set_option linter.unusedVariables false
set_option maxRecDepth 100000

def neg' (p : Comp) : Comp := ⟨p.x, p.y, 0 - p.f⟩
def flat (n : Int) (l : List Comp) : Prop := ∀ p ∈ l, compP n p ∧ within 1000 p.f

theorem flat_neg {n : Int} {l : List Comp} (h : flat n l) : flat n (l.map neg') := by
  intro p hp
  obtain ⟨q, hq, rfl⟩ := List.mem_map.1 hp
  obtain ⟨⟨a, b, c, d, e⟩, f⟩ := h q hq
  unfold within at e f
  exact ⟨⟨a, b, c, d, by unfold within neg'; simp only []; omega⟩, by unfold within neg'; simp only []; omega⟩
theorem flat_append {n : Int} {l m : List Comp} (h : flat n l) (h' : flat n m) : flat n (l ++ m) := by
  intro p hp
  rcases List.mem_append.1 hp with q | q
  · exact h p q
  · exact h' p q

theorem tot_neg (bm : Grid) (n : Int) (l : List Comp) (y x : Int) : tot bm n (l.map neg') y x = - tot bm n l y x := by
  induction l with
  | nil => rfl
  | cons p l ih =>
    simp only [List.map_cons, tot, ih]
    unfold takes neg'
    simp only []
    rw [Int.zero_sub, Int.neg_mul]
    omega

theorem takes_small {bm : Grid} {n : Int} {p : Comp} (hb : beamP bm n) (hp : compP n p) (hf : within 1000 p.f) {y x : Int} (y0 : 0 ≤ y) (y1 : y < n) (x0 : 0 ≤ x) (x1 : x < n) : within 1000000 (takes bm n p y x) := by
  obtain ⟨a, b, c, d, _⟩ := hp
  have hc := (hb.1.2 (y - p.y + n - 1) (by omega) (by omega)).2 (x - p.x + n - 1) (by omega) (by omega)
  unfold takes within at *
  generalize cell bm (y - p.y + n - 1) (x - p.x + n - 1) = z at *
  have h : (p.f * z).natAbs ≤ 1000 * 1000 := by
    rw [Int.natAbs_mul]
    exact Nat.mul_le_mul (by omega) (by omega)
  omega

theorem folds_some {bm : Grid} {n : Int} (n1 : 1 ≤ n) (hb : beamP bm n) : ∀ (l : List Comp) (g : Grid) (B : Int), squareP g n B → flat n l → 0 ≤ B → B + 1000000 * l.length ≤ 1000000000 → ∃ g', Folds bm n g l (some g') ∧ squareP g' n (B + 1000000 * l.length)
  | [], g, B, hs, hl, hB, hsum => ⟨g, .nil g, square_more hs (by simp)⟩
  | p :: l, g, B, hs, hl, hB, hsum => by
    have hlen : ((p :: l).length : Int) = l.length + 1 := by simp
    obtain ⟨hp, hf⟩ := hl p (List.mem_cons_self ..)
    have hstep : ∀ y x : Int, 0 ≤ y → y < n → 0 ≤ x → x < n → within (B + 1000000) (subC g bm n p y x) := by
      intro y x y0 y1 x0 x1
      have h1 := (hs.2 y y0 y1).2 x x0 x1
      have h2 := takes_small hb hp hf y0 y1 x0 x1
      unfold within subC at *
      unfold takes at h2
      omega
    have hle : leftOK g bm n p := fun y x y0 y1 x0 x1 => by
      have := hstep y x y0 y1 x0 x1
      unfold within at *
      omega
    have hsq : squareP (subG g bm n p) n (B + 1000000) := by
      rw [squareP_iff]
      refine ⟨mkG_shp (by omega) _, fun y x y0 y1 x0 x1 => ?_⟩
      unfold subG
      rw [mkG_cell _ y0 y1 x0 x1]
      exact hstep y x y0 y1 x0 x1
    obtain ⟨g', r1, r2⟩ := folds_some n1 hb l _ _ hsq (fun q hq => hl q (List.mem_cons_of_mem _ hq)) (by omega) (by omega)
    exact ⟨g', .go hle r1, square_more r2 (by omega)⟩

theorem here_small {n : Int} {l : List Comp} (hl : flat n l) (y x : Int) : -(1000 * (l.length : Int)) ≤ here l y x ∧ here l y x ≤ 1000 * (l.length : Int) := by
  induction l with
  | nil => simp [here]
  | cons p l ih =>
    obtain ⟨i1, i2⟩ := ih (fun q hq => hl q (List.mem_cons_of_mem _ hq))
    have hf := (hl p (List.mem_cons_self ..)).2
    have hlen : ((p :: l).length : Int) = l.length + 1 := by simp
    unfold within at hf
    have : -1000 ≤ herev p y x ∧ herev p y x ≤ 1000 := by unfold herev; split <;> omega
    simp only [here]
    omega

theorem mod_flat {n : Int} (n1 : 1 ≤ n) (n8 : n ≤ 8) {l : List Comp} (h1 : l.length ≤ 100) (hl : flat n l) : ModIs n l 0 (some (mkG n (here l))) ∧ squareP (mkG n (here l)) n 1000000 := by
  have he : sums l l.length = here l := by funext y x; exact sums_all l y x
  have hlog : logP n l := logP_of h1 (fun p hp => (hl p hp).1)
  refine ⟨.inr (.inr (.inr ⟨n1, n8, hlog, fun y x _ _ _ _ => ?_, rfl, by rw [he]⟩)), ?_⟩
  · have := here_small hl y x
    rw [he]; unfold within; omega
  · rw [squareP_iff]
    refine ⟨mkG_shp (by omega) _, fun y x y0 y1 x0 x1 => ?_⟩
    rw [mkG_cell _ y0 y1 x0 x1]
    have := here_small hl y x
    unfold within; omega

/-- A log and its opposite, one behind the other, leave the image as it is. -/
theorem folds_back {bm : Grid} {n : Int} (n1 : 1 ≤ n) (hb : beamP bm n) {img : Grid} (hs : squareP img n 1000000) {l : List Comp} (h1 : l.length ≤ 50) (hl : flat n l) : Folds bm n img (l ++ l.map neg') (some img) := by
  obtain ⟨g, f1, s1⟩ := folds_some n1 hb (l ++ l.map neg') img 1000000 hs (flat_append hl (flat_neg hl)) (by omega) (by simp; omega)
  have : g = img := by
    refine shp_ext (squareP_shp s1) (squareP_shp hs) (fun y x y0 y1 x0 x1 => ?_)
    rw [f1.cells g rfl y x y0 y1 x0 x1, tot_append, tot_neg]
    omega
  rw [this] at f1
  exact f1

end Go.Proofs.Ytogofeppflindaa
