/-
  THE BRIGHTEST CELL (clean.brightest, Peak; fringeref40.peak, Peak).
-/
import Derived.Test.YtogofeppflindaaCRef2
namespace Go.Proofs.Ytogofeppflindaa
open Go.Sim
set_option linter.unusedVariables false
set_option maxRecDepth 100000

/-- The brightest of the cells before (v, u), and the first such. -/
structure Top (g : Grid) (n v u x y : Int) : Prop where
  x0 : 0 ≤ x
  x1 : x < n
  y0 : 0 ≤ y
  y1 : y < n
  most : ∀ y' x' : Int, 0 ≤ y' → y' < n → 0 ≤ x' → x' < n → before v u y' x' → cell g y' x' ≤ cell g y x
  first : ∀ y' x' : Int, 0 ≤ y' → y' < n → 0 ≤ x' → x' < n → before y x y' x' → cell g y' x' < cell g y x

theorem Top.start {g : Grid} {n : Int} (n1 : 1 ≤ n) : Top g n 0 0 0 0 where
  x0 := by omega
  x1 := by omega
  y0 := by omega
  y1 := by omega
  most := fun y' x' h1 h2 h3 h4 h5 => by unfold before at h5; omega
  first := fun y' x' h1 h2 h3 h4 h5 => by unfold before at h5; omega
theorem Top.line {g : Grid} {n v x y : Int} (t : Top g n v n x y) : Top g n (v + 1) 0 x y :=
  { t with most := fun y' x' h1 h2 h3 h4 h5 => t.most y' x' h1 h2 h3 h4 (by unfold before at *; omega) }
theorem Top.keep {g : Grid} {n v u x y : Int} (t : Top g n v u x y) (h : cell g v u ≤ cell g y x) : Top g n v (u + 1) x y := by
  refine { t with most := fun y' x' h1 h2 h3 h4 h5 => ?_ }
  by_cases e : y' = v ∧ x' = u
  · rw [e.1, e.2]; exact h
  · exact t.most y' x' h1 h2 h3 h4 (by unfold before at *; omega)
theorem Top.take {g : Grid} {n v u x y : Int} (t : Top g n v u x y) (u0 : 0 ≤ u) (u1 : u < n) (v0 : 0 ≤ v) (v1 : v < n) (h : cell g y x < cell g v u) : Top g n v (u + 1) u v where
  x0 := u0
  x1 := u1
  y0 := v0
  y1 := v1
  most := fun y' x' h1 h2 h3 h4 h5 => by
    by_cases e : y' = v ∧ x' = u
    · rw [e.1, e.2]; exact Int.le_refl _
    · have := t.most y' x' h1 h2 h3 h4 (by unfold before at *; omega)
      omega
  first := fun y' x' h1 h2 h3 h4 h5 => by have := t.most y' x' h1 h2 h3 h4 h5; omega
theorem Top.uniq {g : Grid} {n x y x' y' : Int} (t : Top g n n 0 x y) (t' : Top g n n 0 x' y') : x = x' ∧ y = y' := by
  have a1 := t.x0; have a2 := t.x1; have a3 := t.y0; have a4 := t.y1
  have b1 := t'.x0; have b2 := t'.x1; have b3 := t'.y0; have b4 := t'.y1
  by_cases e : before y x y' x'
  · have h1 := t.first y' x' b3 b4 b1 b2 e
    have h2 := t'.most y x a3 a4 a1 a2 (by unfold before; omega)
    omega
  · by_cases e' : before y' x' y x
    · have h1 := t'.first y x a3 a4 a1 a2 e'
      have h2 := t.most y' x' b3 b4 b1 b2 (by unfold before; omega)
      omega
    · unfold before at e e'; omega

/-- What Peak answers. -/
def PeakIs (g : Grid) (x y v e : Int) : Prop :=
  (¬ imgP g 1000000000 ∧ x = 0 ∧ y = 0 ∧ v = 0 ∧ e = 2) ∨ (imgP g 1000000000 ∧ Top g g.length g.length 0 x y ∧ v = cell g y x ∧ e = 0)

theorem PeakIs.uniq {g : Grid} {x y v e x' y' v' e' : Int} (h : PeakIs g x y v e) (h' : PeakIs g x' y' v' e') : x = x' ∧ y = y' ∧ v = v' ∧ e = e' := by
  rcases h with ⟨a, rfl, rfl, rfl, rfl⟩ | ⟨a, t, rfl, rfl⟩ <;> rcases h' with ⟨a', rfl, rfl, rfl, rfl⟩ | ⟨a', t', rfl, rfl⟩
  · exact ⟨rfl, rfl, rfl, rfl⟩
  · exact absurd a' a
  · exact absurd a a'
  · obtain ⟨rfl, rfl⟩ := t.uniq t'
    exact ⟨rfl, rfl, rfl, rfl⟩

variable {call : FuncId → List Value → AHeap → (Value → AHeap → Prop) → Prop}
  {head : FuncId → Nat → Nat → SS → (Exit → SS → Prop) → Prop}
  {arith : BinOp → IntKind → Int → Int → Int}
  {cmp : BinOp → Int → Int → Bool}
  {scmp : BinOp → ByteArray → ByteArray → Bool}
  {bnot : Bool → Bool}
  {bsame : Bool → Bool → Bool}
  {conv : IntKind → Int → Int}
  {neg : IntKind → Int → Int}
  {imax : Int → Int → Int}
  {imin : Int → Int → Int}
  {ofNat : Nat → Int}
  {slen : ByteArray → Int}
  {place : Nat → Int → Nat → Nat}
  {inR : Int → Nat → Prop}
  {nz : Int → Prop}
  {geZ : Int → Prop}
  {rd : AHeap → Nat → Nat → Nat → List Value → Prop}
  {wr : AHeap → Nat → Nat → List Value → AHeap → Prop}
  {push : AHeap → Nat → List Value → AHeap}
  {next : AHeap → Nat}
  {mkOK : Int → Int → Prop}
  {nat : Int → Nat}
  {zeros : List Value → Int → List Value}
  {sadd : ByteArray → ByteArray → (ByteArray → Prop) → Prop}
  {eqAgg : TypeId → Array Value → Array Value → (Bool → Prop) → Prop}
  {cut : Nat → Int → Prop}
  {slc : TypeId → Value → Option Value → Option Value → Option Value → (Option Addr → Nat → Nat → Prop) → Prop}
  {sslc : TypeId → ByteArray → Option Value → Option Value → (ByteArray → Prop) → Prop}
  {strAt : ByteArray → Int → (Int → Prop) → Prop}
  {part : TypeId → Array Value → Nat → Value → Prop}
  {app : List TypeId → List Value → AHeap → (Option Addr → Nat → Nat → AHeap → Prop) → Prop}
  {cpy : List TypeId → List Value → AHeap → (Int → AHeap → Prop) → Prop}
  {putAt : AHeap → Nat → Nat → List Value → AHeap}
  {fresh : AHeap → AHeap}
  {lowered : AHeap → AHeap → AHeap}
  {bump : AHeap → Nat → AHeap}
  {wrote : AHeap → AHeap → Bool}
  {addN : Nat → Nat → Nat}
  {lt : Nat → Nat → Prop}
  {ne : Nat → Nat → Prop}
  {fpAll : Bool → Bool → Bool → Nat → Nat → Prop}
  {brk : (Unit → Prop) → Prop}
  {yn : Nat → Nat}
  {rng : FuncId → Nat → SS → (Exit → SS → Prop) → Prop}
  {mget : TypeId → Value → Value → AHeap → Value → Bool → Prop}
  {mput : TypeId → Value → Value → Value → AHeap → AHeap → Prop}
  {mnew : AHeap → AHeap}
  {bytes : TypeId → TypeId → Option Addr → Nat → AHeap → ByteArray → Prop}
  {clr : List TypeId → List Value → AHeap → AHeap → Prop}
  (hA : AOK progU hint prims ⟨call, head, arith, cmp, scmp, bnot, bsame, conv, neg, imax, imin, ofNat, slen, place, inR, nz, geZ, rd, wr, push, next, mkOK, nat, zeros, sadd, eqAgg, cut, slc, sslc, strAt, part, app, cpy, putAt, fresh, lowered, bump, wrote, addN, lt, ne, fpAll, brk, yn, rng, mget, mput, mnew, bytes, clr⟩)
include hA

theorem bri_inner {h : AHeap} {a : Option Addr} {m c : Nat} {g : Grid} {n : Int} (n8 : n ≤ 1000) {v : Int} (hv0 : 0 ≤ v) (hv1 : v < n) {ra : Option Addr} {rn rc : Nat} (hrow : Row h ra rn rc (rowAt g v)) (hrn : (rn : Int) = n) {Q : Exit → SS → Prop}
    (hQ : ∀ x y w : Int, Top g n v n x y → w = cell g y x → Q (.exit 2) ⟨[(2, .int .i64 x), (3, .int .i64 y), (4, .int .i64 w), (14, .slice a m c), (15, .int .i64 n), (16, .int .i64 v)], 0, [], h⟩) :
    ∀ u : Int, 0 ≤ u → u ≤ rn → ∀ x y w : Int, Top g n v u x y → w = cell g y x → head 36 6 0 ⟨[(2, .int .i64 x), (3, .int .i64 y), (4, .int .i64 w), (5, .int .i64 v), (14, .slice a m c), (15, .int .i64 n), (16, .int .i64 v), (21, .slice ra rn rc), (22, .int .i64 n), (23, .int .i64 u)], 0, [], h⟩ Q := by
  refine countUp (fun u hu0 hun ih x y w t hw => ?_)
  refine hA.roundR Try.func36 r36_ok ?_; (try (conv => cbv)); repeat (refine brk_ok hA ?_; (try (conv => cbv)))
  refine br (u < n) (by rw [e_lss hA]) (fun c1 => ?_) (fun c1 => ?_) <;> (try (conv => cbv)) <;> repeat (refine brk_ok hA ?_; (try (conv => cbv)))
  · obtain ⟨b, o, z, rfl, hb, hz, hrd⟩ := hrow.at hu0 (by omega)
    refine ⟨b, o, rfl, in_ok hA hu0 (by omega), ?_⟩
    ((try (conv => cbv)); repeat (refine brk_ok hA ?_; (try (conv => cbv))))
    refine ⟨z, rd_ok hA hrd, ?_⟩
    ((try (conv => cbv)); repeat (refine brk_ok hA ?_; (try (conv => cbv))))
    have hzc : z = cell g v u := hz
    have ha : arith .add .i64 u 1 = u + 1 := add64 hA (by omega) (by omega)
    refine br (w < z) (by rw [e_gtr hA]) (fun c2 => ?_) (fun c2 => ?_) <;> (try (conv => cbv)) <;> repeat (refine brk_ok hA ?_; (try (conv => cbv)))
    · rw [ha]
      exact ih (by omega) _ _ _ (t.take hu0 c1 hv0 hv1 (by omega)) hzc
    · rw [ha]
      exact ih (by omega) _ _ _ (t.keep (by omega)) hw
  · have : u = n := by omega
    subst this
    exact hQ x y w t hw

theorem bri_outer {h : AHeap} {a : Option Addr} {m c : Nat} {g : Grid} (hg : Img h a m g) {n : Int} (hmn : (m : Int) = n) (n8 : n ≤ 1000) (hs : shp g n) {Q : Exit → SS → Prop}
    (hQ : ∀ x y w : Int, Top g n n 0 x y → w = cell g y x → Q (.exit 0) ⟨[(2, .int .i64 x), (3, .int .i64 y), (4, .int .i64 w)], 0, [], h⟩) :
    ∀ v : Int, 0 ≤ v → v ≤ m → ∀ x y w : Int, Top g n v 0 x y → w = cell g y x → head 36 3 0 ⟨[(2, .int .i64 x), (3, .int .i64 y), (4, .int .i64 w), (14, .slice a m c), (15, .int .i64 n), (16, .int .i64 v)], 0, [], h⟩ Q := by
  refine countUp (fun v hv0 hvn ih x y w t hw => ?_)
  refine hA.roundR Try.func36 r36_ok ?_; (try (conv => cbv)); repeat (refine brk_ok hA ?_; (try (conv => cbv)))
  refine br (v < n) (by rw [e_lss hA]) (fun c1 => ?_) (fun c1 => ?_) <;> (try (conv => cbv)) <;> repeat (refine brk_ok hA ?_; (try (conv => cbv)))
  · obtain ⟨b, o, ra, rn, rc, rfl, hb, hrd, hrow, hrl⟩ := hg.row hv0 (by omega)
    have hr := hs.2 v hv0 c1
    refine ⟨b, o, rfl, in_ok hA hv0 (by omega), ?_⟩
    ((try (conv => cbv)); repeat (refine brk_ok hA ?_; (try (conv => cbv))))
    refine ⟨ra, rn, rc, rd_ok hA hrd, ?_⟩
    ((try (conv => cbv)); repeat (refine brk_ok hA ?_; (try (conv => cbv))))
    have hro : ofNat rn = n := by rw [e_ofNat hA]; omega
    rw [hro]
    refine bri_inner hA n8 hv0 c1 hrow (by omega) (fun x' y' w' t' hw' => ?_) 0 (by omega) (by omega) x y w t hw
    ((try (conv => cbv)); repeat (refine brk_ok hA ?_; (try (conv => cbv))))
    rw [add64 hA (by omega) (by omega)]
    exact ih (by omega) _ _ _ t'.line hw'
  · have : v = n := by omega
    subst this
    exact hQ x y w t hw

theorem bri_ok {h : AHeap} (hlow : h.low ≤ h.next) {a : Option Addr} {m c : Nat} {g : Grid} (hg : Img h a m g) {n : Int} (hmn : (m : Int) = n) (n1 : 1 ≤ n) (n8 : n ≤ 1000) (hs : shp g n) {Q : Value → AHeap → Prop}
    (hQ : ∀ x y w : Int, Top g n n 0 x y → w = cell g y x → Q (.tuple #[.int .i64 x, .int .i64 y, .int .i64 w]) h) : call 36 [.slice a m c] h Q := by
  refine hA.bodyR Try.func36 r36_ok (show prims _ _ _ = none from rfl) hlow ?_; (try (conv => cbv)); repeat (refine brk_ok hA ?_; (try (conv => cbv)))
  obtain ⟨b, o, ra, rn, rc, rfl, hb, hrd, hrow, hrl⟩ := hg.row (i := 0) (by omega) (by omega)
  have hr := hs.2 0 (by omega) (by omega)
  refine ⟨b, o, rfl, in_ok hA (by omega) (by omega), ?_⟩
  ((try (conv => cbv)); repeat (refine brk_ok hA ?_; (try (conv => cbv))))
  refine ⟨ra, rn, rc, rd_ok hA hrd, ?_⟩
  ((try (conv => cbv)); repeat (refine brk_ok hA ?_; (try (conv => cbv))))
  obtain ⟨b2, o2, z, rfl, hb2, hz, hrd2⟩ := hrow.at (i := 0) (by omega) (by omega)
  refine ⟨b2, o2, rfl, in_ok hA (by omega) (by omega), ?_⟩
  ((try (conv => cbv)); repeat (refine brk_ok hA ?_; (try (conv => cbv))))
  refine ⟨z, rd_ok hA hrd2, ?_⟩
  ((try (conv => cbv)); repeat (refine brk_ok hA ?_; (try (conv => cbv))))
  have hmo : ofNat m = n := by rw [e_ofNat hA]; omega
  rw [hmo]
  refine bri_outer hA hg hmn n8 hs (fun x y w t hw => ?_) 0 (by omega) (by omega) 0 0 z (Top.start n1) hz
  ((try (conv => cbv)); repeat (refine brk_ok hA ?_; (try (conv => cbv))))
  exact hQ x y w t hw

theorem rpk_inner {h0 : AHeap} {a : Option Addr} {m c : Nat} {g : Grid} (hg : Img h0 a m g) {n : Int} (hmn : (m : Int) = n) (n8 : n ≤ 1000) (hs : shp g n) {v : Int} (hv0 : 0 ≤ v) (hv1 : v < n) {Q : Exit → SS → Prop}
    (hQ : ∀ (x y : Int) h', Ext h0 h' → Top g n v n x y → Q (.exit 2) ⟨[(0, .slice a m c), (4, .int .i64 x), (5, .int .i64 y), (6, .int .i64 v)], 0, [], h'⟩) :
    ∀ u : Int, 0 ≤ u → u ≤ m → ∀ (x y : Int) h, Ext h0 h → Top g n v u x y → head 33 6 0 ⟨[(0, .slice a m c), (4, .int .i64 x), (5, .int .i64 y), (6, .int .i64 v), (7, .int .i64 u)], 0, [], h⟩ Q := by
  refine countUp (fun u hu0 hun ih x y h e t => ?_)
  refine hA.roundR Try.func33 r33_ok ?_; (try (conv => cbv)); repeat (refine brk_ok hA ?_; (try (conv => cbv)))
  refine br (u < n) (by rw [e_lss hA, e_ofNat hA, hmn]) (fun c1 => ?_) (fun c1 => ?_) <;> (try (conv => cbv)) <;> repeat (refine brk_ok hA ?_; (try (conv => cbv)))
  · obtain ⟨h9, hh9⟩ : ∃ z, z = bump h 15 := ⟨_, rfl⟩
    have e9 : Ext h0 h9 := by rw [hh9, e_bump hA]; exact e.trans (.bump _ _)
    rw [← hh9]
    have t1 := t.x0; have t2 := t.x1; have t3 := t.y0; have t4 := t.y1
    obtain ⟨b, o, ra, rn, rc, hq, hb, hrd, hrow, hrl⟩ := (hg.ext e9).row hv0 (by omega)
    have hr := hs.2 v hv0 hv1
    obtain ⟨b', o', ra', rn', rc', hq', hb', hrd', hrow', hrl'⟩ := (hg.ext e9).row t3 (by omega)
    have hr' := hs.2 y t3 t4
    rw [hq] at hq'
    cases hq'
    subst hq
    refine ⟨b, o, rfl, in_ok hA hv0 (by omega), ?_⟩
    ((try (conv => cbv)); repeat (refine brk_ok hA ?_; (try (conv => cbv))))
    refine ⟨ra, rn, rc, rd_ok hA hrd, ?_⟩
    ((try (conv => cbv)); repeat (refine brk_ok hA ?_; (try (conv => cbv))))
    obtain ⟨b2, o2, z, rfl, hb2, hz, hrd2⟩ := hrow.at hu0 (by omega)
    refine ⟨b2, o2, rfl, in_ok hA hu0 (by omega), ?_⟩
    ((try (conv => cbv)); repeat (refine brk_ok hA ?_; (try (conv => cbv))))
    refine ⟨z, rd_ok hA hrd2, ?_⟩
    ((try (conv => cbv)); repeat (refine brk_ok hA ?_; (try (conv => cbv))))
    refine ⟨b, o, rfl, in_ok hA t3 (by omega), ?_⟩
    ((try (conv => cbv)); repeat (refine brk_ok hA ?_; (try (conv => cbv))))
    refine ⟨ra', rn', rc', rd_ok hA hrd', ?_⟩
    ((try (conv => cbv)); repeat (refine brk_ok hA ?_; (try (conv => cbv))))
    obtain ⟨b3, o3, w, rfl, hb3, hw, hrd3⟩ := hrow'.at t1 (by omega)
    refine ⟨b3, o3, rfl, in_ok hA t1 (by omega), ?_⟩
    ((try (conv => cbv)); repeat (refine brk_ok hA ?_; (try (conv => cbv))))
    refine ⟨w, rd_ok hA hrd3, ?_⟩
    ((try (conv => cbv)); repeat (refine brk_ok hA ?_; (try (conv => cbv))))
    have hzc : z = cell g v u := hz
    have hwc : w = cell g y x := hw
    have ha : arith .add .i64 u 1 = u + 1 := add64 hA (by omega) (by omega)
    refine br (w < z) (by rw [e_gtr hA]) (fun c2 => ?_) (fun c2 => ?_) <;> (try (conv => cbv)) <;> repeat (refine brk_ok hA ?_; (try (conv => cbv)))
    · rw [ha]
      exact ih (by omega) _ _ _ e9 (t.take hu0 c1 hv0 hv1 (by omega))
    · rw [ha]
      exact ih (by omega) _ _ _ e9 (t.keep (by omega))
  · have : u = n := by omega
    subst this
    exact hQ x y h e t

theorem rpk_outer {h0 : AHeap} {a : Option Addr} {m c : Nat} {g : Grid} (hg : Img h0 a m g) {n : Int} (hmn : (m : Int) = n) (n8 : n ≤ 1000) (hs : shp g n) {Q : Exit → SS → Prop}
    (hQ : ∀ (x y : Int) h', Ext h0 h' → Top g n n 0 x y → Q (.exit 0) ⟨[(4, .int .i64 x), (5, .int .i64 y)], 0, [], h'⟩) :
    ∀ v : Int, 0 ≤ v → v ≤ m → ∀ (x y : Int) h, Ext h0 h → Top g n v 0 x y → head 33 3 0 ⟨[(0, .slice a m c), (4, .int .i64 x), (5, .int .i64 y), (6, .int .i64 v)], 0, [], h⟩ Q := by
  refine countUp (fun v hv0 hvn ih x y h e t => ?_)
  refine hA.roundR Try.func33 r33_ok ?_; (try (conv => cbv)); repeat (refine brk_ok hA ?_; (try (conv => cbv)))
  refine br (v < n) (by rw [e_lss hA, e_ofNat hA, hmn]) (fun c1 => ?_) (fun c1 => ?_) <;> (try (conv => cbv)) <;> repeat (refine brk_ok hA ?_; (try (conv => cbv)))
  · refine rpk_inner hA hg hmn n8 hs hv0 c1 (fun x' y' h' e' t' => ?_) 0 (by omega) (by omega) x y h e t
    ((try (conv => cbv)); repeat (refine brk_ok hA ?_; (try (conv => cbv))))
    rw [add64 hA (by omega) (by omega)]
    exact ih (by omega) _ _ _ e' t'.line
  · have : v = n := by omega
    subst this
    exact hQ x y h e t

theorem rpk_ok {h : AHeap} (hlow : h.low ≤ h.next) {a : Option Addr} {m c : Nat} {g : Grid} (hg : Img h a m g) {n : Int} (hmn : (m : Int) = n) (n1 : 1 ≤ n) (n8 : n ≤ 1000) (hs : shp g n) {Q : Value → AHeap → Prop}
    (hQ : ∀ (x y : Int) h', Ext h h' → Top g n n 0 x y → Q (.tuple #[.int .i64 x, .int .i64 y]) h') : call 33 [.slice a m c] h Q := by
  refine hA.bodyR Try.func33 r33_ok (show prims _ _ _ = none from rfl) hlow ?_; (try (conv => cbv)); repeat (refine brk_ok hA ?_; (try (conv => cbv)))
  refine rpk_outer hA hg hmn n8 hs (fun x y h' e t => ?_) 0 (by omega) (by omega) 0 0 h (.refl _) (Top.start n1)
  ((try (conv => cbv)); repeat (refine brk_ok hA ?_; (try (conv => cbv))))
  exact hQ x y h' e t

theorem peak_ok {h : AHeap} (hlow : h.low ≤ h.next) {a : Option Addr} {m c : Nat} {g : Grid} (hg : Img h a m g) {Q : Value → AHeap → Prop}
    (hQ : ∀ x y v e : Int, PeakIs g x y v e → Q (.tuple #[.int .i64 x, .int .i64 y, .int .i64 v, .int .i64 e]) h) : call 14 [.slice a m c] h Q := by
  have hgl := hg.len
  refine hA.bodyR Try.func14 r14_ok (show prims _ _ _ = none from rfl) hlow ?_; (try (conv => cbv)); repeat (refine brk_ok hA ?_; (try (conv => cbv)))
  refine isImage_ok hA hlow hg (by omega) (by omega) (fun r hr => ⟨_, rfl, ?_⟩)
  ((try (conv => cbv)); repeat (refine brk_ok hA ?_; (try (conv => cbv))))
  cases r with
  | false =>
    ((try (conv => cbv)); repeat (refine brk_ok hA ?_; (try (conv => cbv))))
    refine br (True) (by rw [e_bnot hA]; rfl) (fun _ => ?_) (fun q => absurd trivial q) <;> (try (conv => cbv)) <;> repeat (refine brk_ok hA ?_; (try (conv => cbv)))
    exact hQ _ _ _ _ (.inl ⟨(fun q => by have := hr.2 q; cases this), rfl, rfl, rfl, rfl⟩)
  | true =>
    have hi := hr.1 rfl
    have hi1 := hi.1
    have hi2 := hi.2.1
    ((try (conv => cbv)); repeat (refine brk_ok hA ?_; (try (conv => cbv))))
    refine br (False) (by rw [e_bnot hA]; rfl) (fun q => q.elim) (fun _ => ?_) <;> (try (conv => cbv)) <;> repeat (refine brk_ok hA ?_; (try (conv => cbv)))
    refine bri_ok hA hlow hg (n := (g.length : Int)) (by omega) (by omega) (by omega) (squareP_shp hi.2.2) (fun x y w t hw => ⟨_, _, _, rfl, ?_⟩)
    ((try (conv => cbv)); repeat (refine brk_ok hA ?_; (try (conv => cbv))))
    exact hQ _ _ _ _ (.inr ⟨hi, t, hw, rfl⟩)

theorem rpeak_ok {h : AHeap} (hlow : h.low ≤ h.next) {a : Option Addr} {m c : Nat} {g : Grid} (hg : Img h a m g) {Q : Value → AHeap → Prop}
    (hQ : ∀ (x y v e : Int) h', Ext h h' → PeakIs g x y v e → Q (.tuple #[.int .i64 x, .int .i64 y, .int .i64 v, .int .i64 e]) h') : call 15 [.slice a m c] h Q := by
  have hgl := hg.len
  refine hA.bodyR Try.func15 r15_ok (show prims _ _ _ = none from rfl) hlow ?_; (try (conv => cbv)); repeat (refine brk_ok hA ?_; (try (conv => cbv)))
  refine rimg_ok hA hlow hg (by omega) (by omega) (fun r hr => ⟨_, rfl, ?_⟩)
  ((try (conv => cbv)); repeat (refine brk_ok hA ?_; (try (conv => cbv))))
  cases r with
  | false =>
    ((try (conv => cbv)); repeat (refine brk_ok hA ?_; (try (conv => cbv))))
    refine br (True) (by rw [e_bnot hA]; rfl) (fun _ => ?_) (fun q => absurd trivial q) <;> (try (conv => cbv)) <;> repeat (refine brk_ok hA ?_; (try (conv => cbv)))
    exact hQ _ _ _ _ h (.refl _) (.inl ⟨(fun q => by have := hr.2 q; cases this), rfl, rfl, rfl, rfl⟩)
  | true =>
    have hi := hr.1 rfl
    have hi1 := hi.1
    have hi2 := hi.2.1
    have hs := squareP_shp hi.2.2
    ((try (conv => cbv)); repeat (refine brk_ok hA ?_; (try (conv => cbv))))
    refine br (False) (by rw [e_bnot hA]; rfl) (fun q => q.elim) (fun _ => ?_) <;> (try (conv => cbv)) <;> repeat (refine brk_ok hA ?_; (try (conv => cbv)))
    refine rpk_ok hA hlow hg (n := (g.length : Int)) (by omega) (by omega) (by omega) hs (fun x y h1 e1 t => ⟨_, _, rfl, ?_⟩)
    ((try (conv => cbv)); repeat (refine brk_ok hA ?_; (try (conv => cbv))))
    obtain ⟨h9, hh9⟩ : ∃ z, z = bump h1 13 := ⟨_, rfl⟩
    have e9 : Ext h h9 := by rw [hh9, e_bump hA]; exact e1.trans (.bump _ _)
    rw [← hh9]
    have t1 := t.x0; have t2 := t.x1; have t3 := t.y0; have t4 := t.y1
    obtain ⟨b, o, ra, rn, rc, rfl, hb, hrd, hrow, hrl⟩ := (hg.ext e9).row t3 (by omega)
    have hr := hs.2 y t3 t4
    refine ⟨b, o, rfl, in_ok hA t3 (by omega), ?_⟩
    ((try (conv => cbv)); repeat (refine brk_ok hA ?_; (try (conv => cbv))))
    refine ⟨ra, rn, rc, rd_ok hA hrd, ?_⟩
    ((try (conv => cbv)); repeat (refine brk_ok hA ?_; (try (conv => cbv))))
    obtain ⟨b2, o2, z, rfl, hb2, hz, hrd2⟩ := hrow.at t1 (by omega)
    refine ⟨b2, o2, rfl, in_ok hA t1 (by omega), ?_⟩
    ((try (conv => cbv)); repeat (refine brk_ok hA ?_; (try (conv => cbv))))
    refine ⟨z, rd_ok hA hrd2, ?_⟩
    ((try (conv => cbv)); repeat (refine brk_ok hA ?_; (try (conv => cbv))))
    exact hQ _ _ _ _ h9 e9 (.inr ⟨hi, t, hz, rfl⟩)

end Go.Proofs.Ytogofeppflindaa
