/-
  IMAGES AND BEAMS: lists of lists of numbers, in memory and as such.
-/
import Derived.Test.YtogofeppflindaaSymFacts
import Derived.Test.YtogofeppflindaaSymD
namespace Go.Proofs.Ytogofeppflindaa
open Go.Sim
set_option linter.unusedVariables false
set_option maxRecDepth 100000

abbrev Grid := List (List Int)

def rowAt (g : Grid) (i : Int) : List Int := g.getD i.toNat []
def cell (g : Grid) (y x : Int) : Int := at' (rowAt g y) x

/-- n lists of n numbers, none of which is greater than 'most'. -/
def squareP (g : Grid) (n most : Int) : Prop :=
  (g.length : Int) = n ∧ ∀ y : Int, 0 ≤ y → y < n → ((rowAt g y).length : Int) = n ∧ ∀ x : Int, 0 ≤ x → x < n → -most ≤ cell g y x ∧ cell g y x ≤ most
def imgP (g : Grid) (most : Int) : Prop := 1 ≤ (g.length : Int) ∧ (g.length : Int) ≤ 8 ∧ squareP g g.length most
def beamP (g : Grid) (n : Int) : Prop := squareP g (2 * n - 1) 1000 ∧ 0 < cell g (n - 1) (n - 1)
/-- Larger than is considered. -/
def greatP (g : Grid) : Prop := 20 < (g.length : Int) ∨ ∃ y : Int, 0 ≤ y ∧ y < g.length ∧ 20 < ((rowAt g y).length : Int)

theorem no {P : Prop} (h : ¬ P) : (false = true) ↔ P := ⟨(fun q => by cases q), fun q => absurd q h⟩
theorem yes {P : Prop} (h : P) : (true = true) ↔ P := ⟨fun _ => h, fun _ => rfl⟩

/-- A list of numbers that may be read; or an odd slice without capacity. -/
def Row (h : AHeap) (a : Option Addr) (n c : Nat) (r : List Int) : Prop :=
  (Ints h .i64 a n r ∧ (a = none → c = 0)) ∨ (a = some ⟨0, 0, some 0⟩ ∧ n = 0 ∧ c = 0 ∧ r = [])

theorem Row.len {h : AHeap} {a : Option Addr} {n c : Nat} {r : List Int} (p : Row h a n c r) : r.length = n := by
  rcases p with ⟨p, _⟩ | ⟨_, rfl, _, rfl⟩
  · exact p.len
  · rfl
theorem Row.ext {h h' : AHeap} {a : Option Addr} {n c : Nat} {r : List Int} (p : Row h a n c r) (e : Ext h h') : Row h' a n c r := by
  rcases p with ⟨p, q⟩ | p
  · exact .inl ⟨p.ext e, q⟩
  · exact .inr p
theorem Row.at {h : AHeap} {a : Option Addr} {n c : Nat} {r : List Int} (p : Row h a n c r) {i : Int} (h0 : 0 ≤ i) (hi : i < n) : ∃ b o x, a = some ⟨b, o, none⟩ ∧ b < h.next ∧ x = at' r i ∧ h.readG ⟨b, o + i.toNat * 1, none⟩ 1 = some [.int .i64 x] := by
  rcases p with ⟨p, _⟩ | ⟨_, rfl, _⟩
  · exact p.atI h0 hi
  · omega

/-- A header: where a row is, its length, its capacity. -/
structure Hd where
  a : Option Addr
  n : Nat
  c : Nat
def Hd.val (x : Hd) : Value := .slice x.a x.n x.c

/-- An image that may be read. -/
structure Img (h : AHeap) (a : Option Addr) (n : Nat) (g : Grid) : Prop where
  ex : ∃ hs : List Hd, Cells h a n 1 (hs.map Hd.val) ∧ hs.length = g.length ∧ ∀ (i : Nat) (x : Hd) (r : List Int), hs[i]? = some x → g[i]? = some r → Row h x.a x.n x.c r

theorem Img.len {h : AHeap} {a : Option Addr} {n : Nat} {g : Grid} (p : Img h a n g) : g.length = n := by
  obtain ⟨hs, h1, h2, _⟩ := p.ex
  have := h1.length
  rw [List.length_map] at this
  omega
theorem Img.ext {h h' : AHeap} {a : Option Addr} {n : Nat} {g : Grid} (p : Img h a n g) (e : Ext h h') : Img h' a n g := by
  obtain ⟨hs, h1, h2, h3⟩ := p.ex
  exact ⟨hs, h1.ext e, h2, fun i x r hx hr => (h3 i x r hx hr).ext e⟩

theorem getD_some {α : Type} (l : List α) (i : Nat) (d : α) (hi : i < l.length) : l[i]? = some (l.getD i d) := by
  simp [List.getD, List.getElem?_eq_getElem hi]

/-- A row is read. -/
theorem Img.row {h : AHeap} {a : Option Addr} {n : Nat} {g : Grid} (p : Img h a n g) {i : Int} (h0 : 0 ≤ i) (hi : i < n) :
    ∃ b o ra rn rc, a = some ⟨b, o, none⟩ ∧ b < h.next ∧ h.readG ⟨b, o + i.toNat * 1, none⟩ 1 = some [.slice ra rn rc] ∧ Row h ra rn rc (rowAt g i) ∧ ((rowAt g i).length : Int) = rn := by
  have hl := p.len
  obtain ⟨hs, h1, h2, h3⟩ := p.ex
  obtain ⟨b, o, h4, h5, h6⟩ := h1.at (i := i.toNat) (m := 1) (by omega) (by omega)
  have hx := getD_some hs i.toNat ⟨none, 0, 0⟩ (by omega)
  have hr := getD_some g i.toNat [] (by omega)
  have hrow := h3 _ _ _ hx hr
  refine ⟨b, o, _, _, _, h4, h5, ?_, hrow, by have := hrow.len; unfold rowAt; omega⟩
  rw [Nat.mul_one, h6]
  rw [take_one (hs.map Hd.val) i.toNat ((hs.getD i.toNat ⟨none, 0, 0⟩).val) (by rw [List.getElem?_map, hx]; rfl)]
  rfl

end Go.Proofs.Ytogofeppflindaa
