/-
  fringeref40.Image, Beam, Same.
-/
import Derived.Test.YtogofeppflindaaCRef
namespace Go.Proofs.Ytogofeppflindaa
open Go.Sim
set_option linter.unusedVariables false
set_option maxRecDepth 100000

theorem grid_ext {g g' : Grid} (hl : g.length = g'.length) (h : ∀ y : Int, 0 ≤ y → y < g.length → rowAt g y = rowAt g' y) : g = g' := by
  apply List.ext_getElem?
  intro i
  by_cases hi : i < g.length
  · have e1 := rowAt_eq (g := g) (i := (i : Int)) (by omega) (by omega)
    have e2 := rowAt_eq (g := g') (i := (i : Int)) (by omega) (by omega)
    simp only [Int.toNat_natCast] at e1 e2
    rw [e1, e2, h i (by omega) (by omega)]
  · rw [List.getElem?_eq_none (by omega), List.getElem?_eq_none (by omega)]

variable {call : FuncId → List Value → AHeap → (Value → AHeap → Prop) → Prop}
  {head : FuncId → Nat → Nat → SS → (Exit → SS → Prop) → Prop}
  {arith : BinOp → IntKind → Int → Int → Int}
  {cmp : BinOp → Int → Int → Bool}
  {scmp : BinOp → ByteArray → ByteArray → Bool}
  {bnot : Bool → Bool}
  {bsame : Bool → Bool → Bool}
  {conv : IntKind → Int → Int}
  {neg : IntKind → Int → Int}
  {imax : Int → Int → Int}
  {imin : Int → Int → Int}
  {ofNat : Nat → Int}
  {slen : ByteArray → Int}
  {place : Nat → Int → Nat → Nat}
  {inR : Int → Nat → Prop}
  {nz : Int → Prop}
  {geZ : Int → Prop}
  {rd : AHeap → Nat → Nat → Nat → List Value → Prop}
  {wr : AHeap → Nat → Nat → List Value → AHeap → Prop}
  {push : AHeap → Nat → List Value → AHeap}
  {next : AHeap → Nat}
  {mkOK : Int → Int → Prop}
  {nat : Int → Nat}
  {zeros : List Value → Int → List Value}
  {sadd : ByteArray → ByteArray → (ByteArray → Prop) → Prop}
  {eqAgg : TypeId → Array Value → Array Value → (Bool → Prop) → Prop}
  {cut : Nat → Int → Prop}
  {slc : TypeId → Value → Option Value → Option Value → Option Value → (Option Addr → Nat → Nat → Prop) → Prop}
  {sslc : TypeId → ByteArray → Option Value → Option Value → (ByteArray → Prop) → Prop}
  {strAt : ByteArray → Int → (Int → Prop) → Prop}
  {part : TypeId → Array Value → Nat → Value → Prop}
  {app : List TypeId → List Value → AHeap → (Option Addr → Nat → Nat → AHeap → Prop) → Prop}
  {cpy : List TypeId → List Value → AHeap → (Int → AHeap → Prop) → Prop}
  {putAt : AHeap → Nat → Nat → List Value → AHeap}
  {fresh : AHeap → AHeap}
  {lowered : AHeap → AHeap → AHeap}
  {bump : AHeap → Nat → AHeap}
  {wrote : AHeap → AHeap → Bool}
  {addN : Nat → Nat → Nat}
  {lt : Nat → Nat → Prop}
  {ne : Nat → Nat → Prop}
  {fpAll : Bool → Bool → Bool → Nat → Nat → Prop}
  {brk : (Unit → Prop) → Prop}
  {yn : Nat → Nat}
  {rng : FuncId → Nat → SS → (Exit → SS → Prop) → Prop}
  {mget : TypeId → Value → Value → AHeap → Value → Bool → Prop}
  {mput : TypeId → Value → Value → Value → AHeap → AHeap → Prop}
  {mnew : AHeap → AHeap}
  {bytes : TypeId → TypeId → Option Addr → Nat → AHeap → ByteArray → Prop}
  {clr : List TypeId → List Value → AHeap → AHeap → Prop}
  (hA : AOK progU hint prims ⟨call, head, arith, cmp, scmp, bnot, bsame, conv, neg, imax, imin, ofNat, slen, place, inR, nz, geZ, rd, wr, push, next, mkOK, nat, zeros, sadd, eqAgg, cut, slc, sslc, strAt, part, app, cpy, putAt, fresh, lowered, bump, wrote, addN, lt, ne, fpAll, brk, yn, rng, mget, mput, mnew, bytes, clr⟩)
include hA

theorem rimg_inner {h : AHeap} {a : Option Addr} {m c : Nat} {g : Grid} (hg : Img h a m g) (hm : (m : Int) ≤ 8) {most : Int} (hm0 : 0 ≤ most) (hm1 : most ≤ 1000000000) {y : Int} (hy0 : 0 ≤ y) (hy1 : y < m) (hrl : ((rowAt g y).length : Int) = m) {Q : Exit → SS → Prop}
    (h0 : (∀ x : Int, 0 ≤ x → x < m → within most (cell g y x)) → Q (.exit 2) ⟨[(0, .slice a m c), (1, .int .i64 most), (5, .int .i64 y)], 0, [], h⟩)
    (h1 : ∀ e kn K, (∃ x : Int, 0 ≤ x ∧ x < m ∧ ¬ within most (cell g y x)) → Q .ret ⟨(4, .bool false) :: e, kn, K, h⟩) :
    ∀ j : Int, 0 ≤ j → j ≤ m → (∀ x : Int, 0 ≤ x → x < j → within most (cell g y x)) → head 27 9 0 ⟨[(0, .slice a m c), (1, .int .i64 most), (5, .int .i64 y), (6, .int .i64 j)], 0, [], h⟩ Q := by
  refine countUp (fun j hj0 hjn ih hall => ?_)
  refine hA.roundR Try.func27 r27_ok ?_; (try (conv => cbv)); repeat (refine brk_ok hA ?_; (try (conv => cbv)))
  refine br (j < m) (by rw [e_lss hA, e_ofNat hA]) (fun c1 => ?_) (fun c1 => ?_) <;> (try (conv => cbv)) <;> repeat (refine brk_ok hA ?_; (try (conv => cbv)))
  · obtain ⟨b, o, ra, rn, rc, rfl, hb, hrd, hrow, hrl2⟩ := hg.row hy0 hy1
    obtain ⟨b2, o2, x, rfl, hb2, hx, hrd2⟩ := hrow.at hj0 (by omega)
    refine ⟨b, o, rfl, in_ok hA hy0 hy1, ?_⟩
    ((try (conv => cbv)); repeat (refine brk_ok hA ?_; (try (conv => cbv))))
    refine ⟨_, _, _, rd_ok hA hrd, ?_⟩
    ((try (conv => cbv)); repeat (refine brk_ok hA ?_; (try (conv => cbv))))
    refine ⟨b2, o2, rfl, in_ok hA hj0 (by omega), ?_⟩
    ((try (conv => cbv)); repeat (refine brk_ok hA ?_; (try (conv => cbv))))
    refine ⟨x, rd_ok hA hrd2, ?_⟩
    ((try (conv => cbv)); repeat (refine brk_ok hA ?_; (try (conv => cbv))))
    have hneg : neg .i64 most = 0 - most := by rw [e_neg hA, wrap64 (by omega) (by omega)]
    have hxc : x = cell g y j := hx
    refine br (x < 0 - most) (by rw [e_lss hA, hneg]) (fun c2 => ?_) (fun c2 => ?_) <;> (try (conv => cbv)) <;> repeat (refine brk_ok hA ?_; (try (conv => cbv)))
    · exact h1 _ _ _ ⟨j, hj0, c1, by rw [← hxc]; unfold within; omega⟩
    refine ⟨b, o, rfl, in_ok hA hy0 hy1, ?_⟩
    ((try (conv => cbv)); repeat (refine brk_ok hA ?_; (try (conv => cbv))))
    refine ⟨_, _, _, rd_ok hA hrd, ?_⟩
    ((try (conv => cbv)); repeat (refine brk_ok hA ?_; (try (conv => cbv))))
    refine ⟨b2, o2, rfl, in_ok hA hj0 (by omega), ?_⟩
    ((try (conv => cbv)); repeat (refine brk_ok hA ?_; (try (conv => cbv))))
    refine ⟨x, rd_ok hA hrd2, ?_⟩
    ((try (conv => cbv)); repeat (refine brk_ok hA ?_; (try (conv => cbv))))
    refine br (most < x) (by rw [e_gtr hA]) (fun c3 => ?_) (fun c3 => ?_) <;> (try (conv => cbv)) <;> repeat (refine brk_ok hA ?_; (try (conv => cbv)))
    · exact h1 _ _ _ ⟨j, hj0, c1, by rw [← hxc]; unfold within; omega⟩
    rw [add64 hA (by omega) (by omega)]
    refine ih c1 (fun x' h2 h3 => ?_)
    by_cases e : x' = j
    · rw [e, ← hxc]; unfold within; omega
    · exact hall x' h2 (by omega)
  · exact h0 (fun x h2 h3 => hall x h2 (by omega))

theorem rimg_outer {h : AHeap} {a : Option Addr} {m c : Nat} {g : Grid} (hg : Img h a m g) (hm : (m : Int) ≤ 8) {most : Int} (hm0 : 0 ≤ most) (hm1 : most ≤ 1000000000) {Q : Exit → SS → Prop}
    (h0 : squareP g m most → Q (.exit 0) ⟨[], 0, [], h⟩) (h1 : ∀ e kn K, ¬ squareP g m most → Q .ret ⟨(4, .bool false) :: e, kn, K, h⟩) :
    ∀ i : Int, 0 ≤ i → i ≤ m → (∀ y : Int, 0 ≤ y → y < i → ((rowAt g y).length : Int) = m ∧ ∀ x : Int, 0 ≤ x → x < m → within most (cell g y x)) → head 27 4 0 ⟨[(0, .slice a m c), (1, .int .i64 most), (5, .int .i64 i)], 0, [], h⟩ Q := by
  have hl := hg.len
  refine countUp (fun i hi0 hin ih hall => ?_)
  refine hA.roundR Try.func27 r27_ok ?_; (try (conv => cbv)); repeat (refine brk_ok hA ?_; (try (conv => cbv)))
  refine br (i < m) (by rw [e_lss hA, e_ofNat hA]) (fun c1 => ?_) (fun c1 => ?_) <;> (try (conv => cbv)) <;> repeat (refine brk_ok hA ?_; (try (conv => cbv)))
  · obtain ⟨b, o, ra, rn, rc, rfl, hb, hrd, hrow, hrl⟩ := hg.row hi0 c1
    refine ⟨b, o, rfl, in_ok hA hi0 c1, ?_⟩
    ((try (conv => cbv)); repeat (refine brk_ok hA ?_; (try (conv => cbv))))
    refine ⟨ra, rn, rc, rd_ok hA hrd, ?_⟩
    ((try (conv => cbv)); repeat (refine brk_ok hA ?_; (try (conv => cbv))))
    refine br ((rn : Int) ≠ m) (by rw [e_neq hA, e_ofNat hA, e_ofNat hA]) (fun c2 => ?_) (fun c2 => ?_) <;> (try (conv => cbv)) <;> repeat (refine brk_ok hA ?_; (try (conv => cbv)))
    · exact h1 _ _ _ (fun q => c2 (by have := (q.2 i hi0 (by omega)).1; omega))
    · refine rimg_inner hA hg hm hm0 hm1 hi0 c1 (by omega) (fun hrowok => ?_) (fun e kn K q => ?_) 0 (by omega) (by omega) (fun x h2 h3 => by omega)
      · ((try (conv => cbv)); repeat (refine brk_ok hA ?_; (try (conv => cbv))))
        rw [add64 hA (by omega) (by omega)]
        refine ih c1 (fun y h2 h3 => ?_)
        by_cases e : y = i
        · subst e
          exact ⟨by omega, hrowok⟩
        · exact hall y h2 (by omega)
      · obtain ⟨x, h2, h3, h4⟩ := q
        exact h1 _ _ _ (fun q => h4 ((q.2 i hi0 (by omega)).2 x h2 (by omega)))
  · exact h0 ⟨by omega, fun y h2 h3 => hall y h2 (by omega)⟩

theorem rimg_ok {h : AHeap} (hlow : h.low ≤ h.next) {a : Option Addr} {m c : Nat} {g : Grid} (hg : Img h a m g) {most : Int} (hm0 : 0 ≤ most) (hm1 : most ≤ 1000000000) {Q : Value → AHeap → Prop}
    (hQ : ∀ r : Bool, (r = true ↔ imgP g most) → Q (.bool r) h) : call 27 [.slice a m c, .int .i64 most] h Q := by
  have hl := hg.len
  refine hA.bodyR Try.func27 r27_ok (show prims _ _ _ = none from rfl) hlow ?_; (try (conv => cbv)); repeat (refine brk_ok hA ?_; (try (conv => cbv)))
  refine br ((m : Int) < 1) (by rw [e_lss hA, e_ofNat hA]) (fun c1 => ?_) (fun c1 => ?_) <;> (try (conv => cbv)) <;> repeat (refine brk_ok hA ?_; (try (conv => cbv)))
  · exact hQ _ (no (fun q => by have := q.1; omega))
  refine br (8 < (m : Int)) (by rw [e_gtr hA, e_ofNat hA]) (fun c2 => ?_) (fun c2 => ?_) <;> (try (conv => cbv)) <;> repeat (refine brk_ok hA ?_; (try (conv => cbv)))
  · exact hQ _ (no (fun q => by have := q.2.1; omega))
  refine rimg_outer hA hg (by omega) hm0 hm1 (fun q => ?_) (fun e kn K q => ?_) 0 (by omega) (by omega) (fun y h2 h3 => by omega)
  · ((try (conv => cbv)); repeat (refine brk_ok hA ?_; (try (conv => cbv))))
    exact hQ _ (yes ⟨by omega, by omega, by rw [hl]; exact q⟩)
  · ((try (conv => cbv)); repeat (refine brk_ok hA ?_; (try (conv => cbv))))
    exact hQ _ (no (fun r => q (by have := r.2.2; rw [hl] at this; exact this)))

theorem rbeam_inner {h : AHeap} {a : Option Addr} {m c : Nat} {g : Grid} (hg : Img h a m g) (hm : (m : Int) ≤ 1000) {n : Int} {y : Int} (hy0 : 0 ≤ y) (hy1 : y < m) (hrl : ((rowAt g y).length : Int) = m) {Q : Exit → SS → Prop}
    (h0 : (∀ x : Int, 0 ≤ x → x < m → within 1000 (cell g y x)) → Q (.exit 2) ⟨[(0, .slice a m c), (1, .int .i64 n), (5, .int .i64 y)], 0, [], h⟩)
    (h1 : ∀ e kn K, (∃ x : Int, 0 ≤ x ∧ x < m ∧ ¬ within 1000 (cell g y x)) → Q .ret ⟨(4, .bool false) :: e, kn, K, h⟩) :
    ∀ j : Int, 0 ≤ j → j ≤ m → (∀ x : Int, 0 ≤ x → x < j → within 1000 (cell g y x)) → head 38 9 0 ⟨[(0, .slice a m c), (1, .int .i64 n), (5, .int .i64 y), (6, .int .i64 j)], 0, [], h⟩ Q := by
  refine countUp (fun j hj0 hjn ih hall => ?_)
  refine hA.roundR Try.func38 r38_ok ?_; (try (conv => cbv)); repeat (refine brk_ok hA ?_; (try (conv => cbv)))
  refine br (j < m) (by rw [e_lss hA, e_ofNat hA]) (fun c1 => ?_) (fun c1 => ?_) <;> (try (conv => cbv)) <;> repeat (refine brk_ok hA ?_; (try (conv => cbv)))
  · obtain ⟨b, o, ra, rn, rc, rfl, hb, hrd, hrow, hrl2⟩ := hg.row hy0 hy1
    obtain ⟨b2, o2, x, rfl, hb2, hx, hrd2⟩ := hrow.at hj0 (by omega)
    refine ⟨b, o, rfl, in_ok hA hy0 hy1, ?_⟩
    ((try (conv => cbv)); repeat (refine brk_ok hA ?_; (try (conv => cbv))))
    refine ⟨_, _, _, rd_ok hA hrd, ?_⟩
    ((try (conv => cbv)); repeat (refine brk_ok hA ?_; (try (conv => cbv))))
    refine ⟨b2, o2, rfl, in_ok hA hj0 (by omega), ?_⟩
    ((try (conv => cbv)); repeat (refine brk_ok hA ?_; (try (conv => cbv))))
    refine ⟨x, rd_ok hA hrd2, ?_⟩
    ((try (conv => cbv)); repeat (refine brk_ok hA ?_; (try (conv => cbv))))
    have hxc : x = cell g y j := hx
    refine br (x < -1000) (by rw [e_lss hA]) (fun c2 => ?_) (fun c2 => ?_) <;> (try (conv => cbv)) <;> repeat (refine brk_ok hA ?_; (try (conv => cbv)))
    · exact h1 _ _ _ ⟨j, hj0, c1, by rw [← hxc]; unfold within; omega⟩
    refine ⟨b, o, rfl, in_ok hA hy0 hy1, ?_⟩
    ((try (conv => cbv)); repeat (refine brk_ok hA ?_; (try (conv => cbv))))
    refine ⟨_, _, _, rd_ok hA hrd, ?_⟩
    ((try (conv => cbv)); repeat (refine brk_ok hA ?_; (try (conv => cbv))))
    refine ⟨b2, o2, rfl, in_ok hA hj0 (by omega), ?_⟩
    ((try (conv => cbv)); repeat (refine brk_ok hA ?_; (try (conv => cbv))))
    refine ⟨x, rd_ok hA hrd2, ?_⟩
    ((try (conv => cbv)); repeat (refine brk_ok hA ?_; (try (conv => cbv))))
    refine br (1000 < x) (by rw [e_gtr hA]) (fun c3 => ?_) (fun c3 => ?_) <;> (try (conv => cbv)) <;> repeat (refine brk_ok hA ?_; (try (conv => cbv)))
    · exact h1 _ _ _ ⟨j, hj0, c1, by rw [← hxc]; unfold within; omega⟩
    rw [add64 hA (by omega) (by omega)]
    refine ih c1 (fun x' h2 h3 => ?_)
    by_cases e : x' = j
    · rw [e, ← hxc]; unfold within; omega
    · exact hall x' h2 (by omega)
  · exact h0 (fun x h2 h3 => hall x h2 (by omega))

theorem rbeam_outer {h : AHeap} {a : Option Addr} {m c : Nat} {g : Grid} (hg : Img h a m g) {n : Int} (hn0 : 1 ≤ n) (hn1 : n ≤ 100) (hmn : (m : Int) = 2 * n - 1) {Q : Exit → SS → Prop}
    (h0 : squareP g (2 * n - 1) 1000 → Q (.exit 0) ⟨[(0, .slice a m c), (1, .int .i64 n)], 0, [], h⟩) (h1 : ∀ e kn K, ¬ squareP g (2 * n - 1) 1000 → Q .ret ⟨(4, .bool false) :: e, kn, K, h⟩) :
    ∀ i : Int, 0 ≤ i → i ≤ m → (∀ y : Int, 0 ≤ y → y < i → ((rowAt g y).length : Int) = m ∧ ∀ x : Int, 0 ≤ x → x < m → within 1000 (cell g y x)) → head 38 4 0 ⟨[(0, .slice a m c), (1, .int .i64 n), (5, .int .i64 i)], 0, [], h⟩ Q := by
  have hl := hg.len
  have e1 : arith .mul .i64 2 n = 2 * n := mul64 hA (by omega) (by omega)
  have e2 : arith .sub .i64 (2 * n) 1 = 2 * n - 1 := sub64 hA (by omega) (by omega)
  refine countUp (fun i hi0 hin ih hall => ?_)
  refine hA.roundR Try.func38 r38_ok ?_; (try (conv => cbv)); repeat (refine brk_ok hA ?_; (try (conv => cbv)))
  refine br (i < m) (by rw [e_lss hA, e_ofNat hA]) (fun c1 => ?_) (fun c1 => ?_) <;> (try (conv => cbv)) <;> repeat (refine brk_ok hA ?_; (try (conv => cbv)))
  · obtain ⟨b, o, ra, rn, rc, rfl, hb, hrd, hrow, hrl⟩ := hg.row hi0 c1
    refine ⟨b, o, rfl, in_ok hA hi0 c1, ?_⟩
    ((try (conv => cbv)); repeat (refine brk_ok hA ?_; (try (conv => cbv))))
    refine ⟨ra, rn, rc, rd_ok hA hrd, ?_⟩
    ((try (conv => cbv)); repeat (refine brk_ok hA ?_; (try (conv => cbv))))
    refine br ((rn : Int) ≠ 2 * n - 1) (by rw [e_neq hA, e_ofNat hA, e1, e2]) (fun c2 => ?_) (fun c2 => ?_) <;> (try (conv => cbv)) <;> repeat (refine brk_ok hA ?_; (try (conv => cbv)))
    · exact h1 _ _ _ (fun q => c2 (by have := (q.2 i hi0 (by omega)).1; omega))
    · refine rbeam_inner hA hg (by omega) hi0 c1 (by omega) (fun hrowok => ?_) (fun e kn K q => ?_) 0 (by omega) (by omega) (fun x h2 h3 => by omega)
      · ((try (conv => cbv)); repeat (refine brk_ok hA ?_; (try (conv => cbv))))
        rw [add64 hA (by omega) (by omega)]
        refine ih c1 (fun y h2 h3 => ?_)
        by_cases e : y = i
        · subst e
          exact ⟨by omega, hrowok⟩
        · exact hall y h2 (by omega)
      · obtain ⟨x, h2, h3, h4⟩ := q
        exact h1 _ _ _ (fun q => h4 ((q.2 i hi0 (by omega)).2 x h2 (by omega)))
  · exact h0 ⟨by omega, fun y h2 h3 => ⟨by have := (hall y h2 (by omega)).1; omega, fun x h4 h5 => (hall y h2 (by omega)).2 x h4 (by omega)⟩⟩

theorem rbeam_ok {h : AHeap} (hlow : h.low ≤ h.next) {a : Option Addr} {m c : Nat} {g : Grid} (hg : Img h a m g) {n : Int} (hn0 : 1 ≤ n) (hn1 : n ≤ 100) {Q : Value → AHeap → Prop}
    (hQ : ∀ r : Bool, (r = true ↔ beamP g n) → Q (.bool r) h) : call 38 [.slice a m c, .int .i64 n] h Q := by
  have hl := hg.len
  have e1 : arith .mul .i64 2 n = 2 * n := mul64 hA (by omega) (by omega)
  have e2 : arith .sub .i64 (2 * n) 1 = 2 * n - 1 := sub64 hA (by omega) (by omega)
  have e3 : arith .sub .i64 n 1 = n - 1 := sub64 hA (by omega) (by omega)
  refine hA.bodyR Try.func38 r38_ok (show prims _ _ _ = none from rfl) hlow ?_; (try (conv => cbv)); repeat (refine brk_ok hA ?_; (try (conv => cbv)))
  refine br ((m : Int) ≠ 2 * n - 1) (by rw [e_neq hA, e_ofNat hA, e1, e2]) (fun c1 => ?_) (fun c1 => ?_) <;> (try (conv => cbv)) <;> repeat (refine brk_ok hA ?_; (try (conv => cbv)))
  · exact hQ _ (no (fun q => by have := q.1.1; omega))
  refine rbeam_outer hA hg hn0 hn1 (by omega) (fun q => ?_) (fun e kn K q => ?_) 0 (by omega) (by omega) (fun y h2 h3 => by omega)
  · ((try (conv => cbv)); repeat (refine brk_ok hA ?_; (try (conv => cbv))))
    rw [e3]
    obtain ⟨b, o, ra, rn, rc, rfl, hb, hrd, hrow, hrl⟩ := hg.row (i := n - 1) (by omega) (by omega)
    have hq2 := (q.2 (n - 1) (by omega) (by omega)).1
    refine ⟨b, o, rfl, in_ok hA (by omega) (by omega), ?_⟩
    ((try (conv => cbv)); repeat (refine brk_ok hA ?_; (try (conv => cbv))))
    refine ⟨ra, rn, rc, rd_ok hA hrd, ?_⟩
    ((try (conv => cbv)); repeat (refine brk_ok hA ?_; (try (conv => cbv))))
    obtain ⟨b2, o2, x, rfl, hb2, hx, hrd2⟩ := hrow.at (i := n - 1) (by omega) (by omega)
    rw [e3]
    refine ⟨b2, o2, rfl, in_ok hA (by omega) (by omega), ?_⟩
    ((try (conv => cbv)); repeat (refine brk_ok hA ?_; (try (conv => cbv))))
    refine ⟨x, rd_ok hA hrd2, ?_⟩
    ((try (conv => cbv)); repeat (refine brk_ok hA ?_; (try (conv => cbv))))
    refine hQ _ ?_
    rw [e_gtr hA, hx]
    unfold beamP cell
    simp only [decide_eq_true_eq]
    exact ⟨fun h => ⟨q, h⟩, fun h => h.2⟩
  · ((try (conv => cbv)); repeat (refine brk_ok hA ?_; (try (conv => cbv))))
    exact hQ _ (no (fun r => q r.1))

theorem same_inner {h0 : AHeap} (hlow0 : h0.low ≤ h0.next) {a a' : Option Addr} {m m' c c' : Nat} {g g' : Grid} (hg : Img h0 a m g) (hg' : Img h0 a' m' g') {y : Int} (hy0 : 0 ≤ y) (hy1 : y < m) (hy2 : y < m') (hrl : (rowAt g y).length = (rowAt g' y).length) (hrb : ((rowAt g y).length : Int) ≤ 1000000) {Q : Exit → SS → Prop}
    (h1 : ∀ h', Ext h0 h' → rowAt g y = rowAt g' y → Q (.exit 2) ⟨[(0, .slice a m c), (1, .slice a' m' c'), (5, .int .i64 y)], 11, [], h'⟩)
    (h2 : ∀ e kn K h', Ext h0 h' → rowAt g y ≠ rowAt g' y → Q .ret ⟨(4, .bool false) :: e, kn, K, h'⟩) :
    ∀ j : Int, 0 ≤ j → j ≤ (rowAt g y).length → ∀ h, Ext h0 h → (∀ x : Int, 0 ≤ x → x < j → at' (rowAt g y) x = at' (rowAt g' y) x) → head 18 9 11 ⟨[(0, .slice a m c), (1, .slice a' m' c'), (5, .int .i64 y), (6, .int .i64 j)], 11, [], h⟩ Q := by
  refine countUp (fun j hj0 hjn ih h e hall => ?_)
  refine hA.roundR Try.func18 r18_ok ?_; (try (conv => cbv)); repeat (refine brk_ok hA ?_; (try (conv => cbv)))
  obtain ⟨b, o, ra, rn, rc, rfl, hb, hrd, hrow, hrl2⟩ := (hg.ext e).row hy0 hy1
  refine ⟨b, o, rfl, in_ok hA hy0 hy1, ?_⟩
  ((try (conv => cbv)); repeat (refine brk_ok hA ?_; (try (conv => cbv))))
  refine ⟨ra, rn, rc, rd_ok hA hrd, ?_⟩
  ((try (conv => cbv)); repeat (refine brk_ok hA ?_; (try (conv => cbv))))
  refine br (j < rn) (by rw [e_lss hA, e_ofNat hA]) (fun c1 => ?_) (fun c1 => ?_) <;> (try (conv => cbv)) <;> repeat (refine brk_ok hA ?_; (try (conv => cbv)))
  · obtain ⟨h9, hh9⟩ : ∃ x, x = bump h 15 := ⟨_, rfl⟩
    have e9 : Ext h0 h9 := by rw [hh9, e_bump hA]; exact e.trans (.bump _ _)
    have e8 : Ext h h9 := by rw [hh9, e_bump hA]; exact .bump _ _
    rw [← hh9]
    obtain ⟨b1, o1, ra1, rn1, rc1, hq1, hb1, hrd1, hrow1, hrl1⟩ := (hg.ext e9).row hy0 hy1
    cases hq1
    refine ⟨b, o, rfl, in_ok hA hy0 hy1, ?_⟩
    ((try (conv => cbv)); repeat (refine brk_ok hA ?_; (try (conv => cbv))))
    refine ⟨ra1, rn1, rc1, rd_ok hA hrd1, ?_⟩
    ((try (conv => cbv)); repeat (refine brk_ok hA ?_; (try (conv => cbv))))
    obtain ⟨b2, o2, x, rfl, hb2, hx, hrd2⟩ := hrow1.at hj0 (by omega)
    refine ⟨b2, o2, rfl, in_ok hA hj0 (by omega), ?_⟩
    ((try (conv => cbv)); repeat (refine brk_ok hA ?_; (try (conv => cbv))))
    refine ⟨x, rd_ok hA hrd2, ?_⟩
    ((try (conv => cbv)); repeat (refine brk_ok hA ?_; (try (conv => cbv))))
    obtain ⟨b3, o3, ra3, rn3, rc3, rfl, hb3, hrd3, hrow3, hrl3⟩ := (hg'.ext e9).row hy0 hy2
    refine ⟨b3, o3, rfl, in_ok hA hy0 hy2, ?_⟩
    ((try (conv => cbv)); repeat (refine brk_ok hA ?_; (try (conv => cbv))))
    refine ⟨ra3, rn3, rc3, rd_ok hA hrd3, ?_⟩
    ((try (conv => cbv)); repeat (refine brk_ok hA ?_; (try (conv => cbv))))
    obtain ⟨b4, o4, x4, rfl, hb4, hx4, hrd4⟩ := hrow3.at hj0 (by omega)
    refine ⟨b4, o4, rfl, in_ok hA hj0 (by omega), ?_⟩
    ((try (conv => cbv)); repeat (refine brk_ok hA ?_; (try (conv => cbv))))
    refine ⟨x4, rd_ok hA hrd4, ?_⟩
    ((try (conv => cbv)); repeat (refine brk_ok hA ?_; (try (conv => cbv))))
    refine br (x ≠ x4) (e_neq hA _ _) (fun c2 => ?_) (fun c2 => ?_) <;> (try (conv => cbv)) <;> repeat (refine brk_ok hA ?_; (try (conv => cbv)))
    · exact h2 _ _ _ h9 e9 (fun q => c2 (by rw [hx, hx4, q]))
    · rw [add64 hA (by omega) (by omega)]
      refine ih (by omega) h9 e9 (fun x' h3 h4 => ?_)
      by_cases e : x' = j
      · rw [e, ← hx, ← hx4]; omega
      · exact hall x' h3 (by omega)
  · exact h1 h e (list_ext' hrl (fun x h3 h4 => hall x h3 (by omega)))

theorem same_outer {h0 : AHeap} (hlow0 : h0.low ≤ h0.next) {a a' : Option Addr} {m c c' : Nat} {g g' : Grid} (hg : Img h0 a m g) (hg' : Img h0 a' m g') (hm : (m : Int) ≤ 1000000) (hrb : ∀ y : Int, 0 ≤ y → y < m → ((rowAt g y).length : Int) ≤ 1000000) {Q : Exit → SS → Prop}
    (h1 : ∀ e kn K h', Ext h0 h' → g = g' → Q (.exit 0) ⟨e, kn, K, h'⟩) (h2 : ∀ e kn K h', Ext h0 h' → g ≠ g' → Q .ret ⟨(4, .bool false) :: e, kn, K, h'⟩) :
    ∀ i : Int, 0 ≤ i → i ≤ m → ∀ h, Ext h0 h → (∀ y : Int, 0 ≤ y → y < i → rowAt g y = rowAt g' y) → head 18 4 0 ⟨[(0, .slice a m c), (1, .slice a' m c'), (5, .int .i64 i)], 0, [], h⟩ Q := by
  have hl := hg.len
  have hl' := hg'.len
  refine countUp (fun i hi0 hin ih h e hall => ?_)
  refine hA.roundR Try.func18 r18_ok ?_; (try (conv => cbv)); repeat (refine brk_ok hA ?_; (try (conv => cbv)))
  refine br (i < m) (by rw [e_lss hA, e_ofNat hA]) (fun c1 => ?_) (fun c1 => ?_) <;> (try (conv => cbv)) <;> repeat (refine brk_ok hA ?_; (try (conv => cbv)))
  · obtain ⟨h9, hh9⟩ : ∃ x, x = bump h 11 := ⟨_, rfl⟩
    have e9 : Ext h0 h9 := by rw [hh9, e_bump hA]; exact e.trans (.bump _ _)
    rw [← hh9]
    obtain ⟨b, o, ra, rn, rc, rfl, hb, hrd, hrow, hrl⟩ := (hg.ext e9).row hi0 c1
    refine ⟨b, o, rfl, in_ok hA hi0 c1, ?_⟩
    ((try (conv => cbv)); repeat (refine brk_ok hA ?_; (try (conv => cbv))))
    refine ⟨ra, rn, rc, rd_ok hA hrd, ?_⟩
    ((try (conv => cbv)); repeat (refine brk_ok hA ?_; (try (conv => cbv))))
    obtain ⟨b3, o3, ra3, rn3, rc3, rfl, hb3, hrd3, hrow3, hrl3⟩ := (hg'.ext e9).row hi0 c1
    refine ⟨b3, o3, rfl, in_ok hA hi0 c1, ?_⟩
    ((try (conv => cbv)); repeat (refine brk_ok hA ?_; (try (conv => cbv))))
    refine ⟨ra3, rn3, rc3, rd_ok hA hrd3, ?_⟩
    ((try (conv => cbv)); repeat (refine brk_ok hA ?_; (try (conv => cbv))))
    refine br ((rn : Int) ≠ rn3) (by rw [e_neq hA, e_ofNat hA, e_ofNat hA]) (fun c2 => ?_) (fun c2 => ?_) <;> (try (conv => cbv)) <;> repeat (refine brk_ok hA ?_; (try (conv => cbv)))
    · exact h2 _ _ _ h9 e9 (fun q => c2 (by rw [← hrl, ← hrl3, q]))
    · refine same_inner hA hlow0 hg hg' hi0 c1 c1 (by omega) (hrb i hi0 c1) (fun h' e' q => ?_) (fun e kn K h' e' q => ?_) 0 (by omega) (by omega) h9 e9 (fun x h3 h4 => by omega)
      · ((try (conv => cbv)); repeat (refine brk_ok hA ?_; (try (conv => cbv))))
        rw [add64 hA (by omega) (by omega)]
        refine ih c1 h' e' (fun y h3 h4 => ?_)
        by_cases e : y = i
        · rw [e]; exact q
        · exact hall y h3 (by omega)
      · exact h2 _ _ _ h' e' (fun r => q (by rw [r]))
  · exact h1 _ _ _ h e (grid_ext (by omega) (fun y h3 h4 => hall y h3 (by omega)))

theorem same_ok {h : AHeap} (hlow : h.low ≤ h.next) {a a' : Option Addr} {m m' c c' : Nat} {g g' : Grid} (hg : Img h a m g) (hg' : Img h a' m' g') (hm : (m : Int) ≤ 1000000) (hrb : ∀ y : Int, 0 ≤ y → y < m → ((rowAt g y).length : Int) ≤ 1000000) {Q : Value → AHeap → Prop}
    (hQ : ∀ (r : Bool) h', Ext h h' → (r = true ↔ g = g') → Q (.bool r) h') : call 18 [.slice a m c, .slice a' m' c'] h Q := by
  have hl := hg.len
  have hl' := hg'.len
  refine hA.bodyR Try.func18 r18_ok (show prims _ _ _ = none from rfl) hlow ?_; (try (conv => cbv)); repeat (refine brk_ok hA ?_; (try (conv => cbv)))
  refine br ((m : Int) ≠ m') (by rw [e_neq hA, e_ofNat hA, e_ofNat hA]) (fun c1 => ?_) (fun c1 => ?_) <;> (try (conv => cbv)) <;> repeat (refine brk_ok hA ?_; (try (conv => cbv)))
  · exact hQ _ h (.refl _) (no (fun q => c1 (by rw [q] at hl; omega)))
  · have : m' = m := by omega
    subst this
    refine same_outer hA hlow hg hg' hm hrb (fun e kn K h' e' q => ?_) (fun e kn K h' e' q => ?_) 0 (by omega) (by omega) h (.refl _) (fun y h3 h4 => by omega)
    · ((try (conv => cbv)); repeat (refine brk_ok hA ?_; (try (conv => cbv))))
      exact hQ _ h' e' (yes q)
    · ((try (conv => cbv)); repeat (refine brk_ok hA ?_; (try (conv => cbv))))
      exact hQ _ h' e' (no q)

end Go.Proofs.Ytogofeppflindaa
