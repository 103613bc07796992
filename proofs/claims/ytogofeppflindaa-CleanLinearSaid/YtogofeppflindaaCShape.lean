/-
  SHAPES: which lists of lists are images and beams (clean.isSquare, isImage, isBeam, inRange; fringeref40.Image, Beam, Great).
-/
import Derived.Test.YtogofeppflindaaCData
namespace Go.Proofs.Ytogofeppflindaa
open Go.Sim
set_option linter.unusedVariables false
set_option maxRecDepth 100000

def within (most x : Int) : Prop := -most ≤ x ∧ x ≤ most

variable {call : FuncId → List Value → AHeap → (Value → AHeap → Prop) → Prop}
  {head : FuncId → Nat → Nat → SS → (Exit → SS → Prop) → Prop}
  {arith : BinOp → IntKind → Int → Int → Int}
  {cmp : BinOp → Int → Int → Bool}
  {scmp : BinOp → ByteArray → ByteArray → Bool}
  {bnot : Bool → Bool}
  {bsame : Bool → Bool → Bool}
  {conv : IntKind → Int → Int}
  {neg : IntKind → Int → Int}
  {imax : Int → Int → Int}
  {imin : Int → Int → Int}
  {ofNat : Nat → Int}
  {slen : ByteArray → Int}
  {place : Nat → Int → Nat → Nat}
  {inR : Int → Nat → Prop}
  {nz : Int → Prop}
  {geZ : Int → Prop}
  {rd : AHeap → Nat → Nat → Nat → List Value → Prop}
  {wr : AHeap → Nat → Nat → List Value → AHeap → Prop}
  {push : AHeap → Nat → List Value → AHeap}
  {next : AHeap → Nat}
  {mkOK : Int → Int → Prop}
  {nat : Int → Nat}
  {zeros : List Value → Int → List Value}
  {sadd : ByteArray → ByteArray → (ByteArray → Prop) → Prop}
  {eqAgg : TypeId → Array Value → Array Value → (Bool → Prop) → Prop}
  {cut : Nat → Int → Prop}
  {slc : TypeId → Value → Option Value → Option Value → Option Value → (Option Addr → Nat → Nat → Prop) → Prop}
  {sslc : TypeId → ByteArray → Option Value → Option Value → (ByteArray → Prop) → Prop}
  {strAt : ByteArray → Int → (Int → Prop) → Prop}
  {part : TypeId → Array Value → Nat → Value → Prop}
  {app : List TypeId → List Value → AHeap → (Option Addr → Nat → Nat → AHeap → Prop) → Prop}
  {cpy : List TypeId → List Value → AHeap → (Int → AHeap → Prop) → Prop}
  {putAt : AHeap → Nat → Nat → List Value → AHeap}
  {fresh : AHeap → AHeap}
  {lowered : AHeap → AHeap → AHeap}
  {bump : AHeap → Nat → AHeap}
  {wrote : AHeap → AHeap → Bool}
  {addN : Nat → Nat → Nat}
  {lt : Nat → Nat → Prop}
  {ne : Nat → Nat → Prop}
  {fpAll : Bool → Bool → Bool → Nat → Nat → Prop}
  {brk : (Unit → Prop) → Prop}
  {yn : Nat → Nat}
  {rng : FuncId → Nat → SS → (Exit → SS → Prop) → Prop}
  {mget : TypeId → Value → Value → AHeap → Value → Bool → Prop}
  {mput : TypeId → Value → Value → Value → AHeap → AHeap → Prop}
  {mnew : AHeap → AHeap}
  {bytes : TypeId → TypeId → Option Addr → Nat → AHeap → ByteArray → Prop}
  {clr : List TypeId → List Value → AHeap → AHeap → Prop}
  (hA : AOK progU hint prims ⟨call, head, arith, cmp, scmp, bnot, bsame, conv, neg, imax, imin, ofNat, slen, place, inR, nz, geZ, rd, wr, push, next, mkOK, nat, zeros, sadd, eqAgg, cut, slc, sslc, strAt, part, app, cpy, putAt, fresh, lowered, bump, wrote, addN, lt, ne, fpAll, brk, yn, rng, mget, mput, mnew, bytes, clr⟩)
include hA

theorem inRange_ok {h : AHeap} (hlow : h.low ≤ h.next) {v : Int} {Q : Value → AHeap → Prop} (hQ : ∀ r : Bool, (r = true ↔ within 1000000000 v) → Q (.bool r) h) : call 48 [.int .i64 v] h Q := by
  refine hA.bodyR Try.func48 r48_ok (show prims _ _ _ = none from rfl) hlow ?_; (try (conv => cbv)); repeat (refine brk_ok hA ?_; (try (conv => cbv)))
  refine br (-1000000000 ≤ v) (e_geq hA _ _) (fun c1 => ?_) (fun c1 => ?_) <;> (try (conv => cbv)) <;> repeat (refine brk_ok hA ?_; (try (conv => cbv)))
  · exact hQ _ (by rw [e_leq hA]; unfold within; simp; omega)
  · exact hQ _ (by unfold within; simp; omega)

theorem sq_inner {h : AHeap} {n most : Int} (hm0 : 0 ≤ most) (hm1 : most ≤ 1000000000) {a : Option Addr} {m c : Nat} {i : Int} {ra : Option Addr} {rn rc : Nat} {r : List Int} (hr : Row h ra rn rc r) (hrn : (rn : Int) ≤ 1073741824000) {Q : Exit → SS → Prop}
    (h0 : (∀ x : Int, 0 ≤ x → x < rn → within most (at' r x)) → Q (.exit 2) ⟨[(1, .int .i64 n), (2, .int .i64 most), (15, .slice a m c), (16, .int .i64 (ofNat m)), (17, .int .i64 i)], 0, [], h⟩)
    (h1 : ∀ e kn K, (∃ x : Int, 0 ≤ x ∧ x < rn ∧ ¬ within most (at' r x)) → Q .ret ⟨(6, .bool false) :: e, kn, K, h⟩) :
    ∀ j : Int, 0 ≤ j → j ≤ rn → (∀ x : Int, 0 ≤ x → x < j → within most (at' r x)) → head 47 9 0 ⟨[(1, .int .i64 n), (2, .int .i64 most), (15, .slice a m c), (16, .int .i64 (ofNat m)), (17, .int .i64 i), (25, .slice ra rn rc), (26, .int .i64 (ofNat rn)), (27, .int .i64 j)], 0, [], h⟩ Q := by
  refine countUp (fun j hj0 hjn ih hall => ?_)
  refine hA.roundR Try.func47 r47_ok ?_; (try (conv => cbv)); repeat (refine brk_ok hA ?_; (try (conv => cbv)))
  refine br (j < rn) (by rw [e_lss hA, e_ofNat hA]) (fun c1 => ?_) (fun c1 => ?_) <;> (try (conv => cbv)) <;> repeat (refine brk_ok hA ?_; (try (conv => cbv)))
  · obtain ⟨b, o, x, rfl, hb, hx, hrd⟩ := hr.at hj0 c1
    refine ⟨b, o, rfl, in_ok hA hj0 c1, ?_⟩
    ((try (conv => cbv)); repeat (refine brk_ok hA ?_; (try (conv => cbv))))
    refine ⟨x, rd_ok hA hrd, ?_⟩
    ((try (conv => cbv)); repeat (refine brk_ok hA ?_; (try (conv => cbv))))
    have hneg : neg .i64 most = 0 - most := by rw [e_neg hA, wrap64 (by omega) (by omega)]
    refine br (x < 0 - most) (by rw [e_lss hA, hneg]) (fun c2 => ?_) (fun c2 => ?_) <;> (try (conv => cbv)) <;> repeat (refine brk_ok hA ?_; (try (conv => cbv)))
    · exact h1 _ _ _ ⟨j, hj0, c1, by rw [← hx]; unfold within; omega⟩
    · refine br (most < x) (by rw [e_gtr hA]) (fun c3 => ?_) (fun c3 => ?_) <;> (try (conv => cbv)) <;> repeat (refine brk_ok hA ?_; (try (conv => cbv)))
      · exact h1 _ _ _ ⟨j, hj0, c1, by rw [← hx]; unfold within; omega⟩
      · rw [add64 hA (by omega) (by omega)]
        refine ih c1 (fun x' h2 h3 => ?_)
        by_cases e : x' = j
        · rw [e, ← hx]; unfold within; omega
        · exact hall x' h2 (by omega)
  · exact h0 (fun x h2 h3 => hall x h2 (by omega))

theorem sq_outer {h : AHeap} {n most : Int} (hm0 : 0 ≤ most) (hm1 : most ≤ 1000000000) {a : Option Addr} {m c : Nat} {g : Grid} (hg : Img h a m g) (hn : n ≤ 1073741824000) (hmn : (m : Int) = n) {Q : Exit → SS → Prop}
    (h0 : squareP g n most → Q (.exit 0) ⟨[], 0, [], h⟩) (h1 : ∀ e kn K, ¬ squareP g n most → Q .ret ⟨(6, .bool false) :: e, kn, K, h⟩) :
    ∀ i : Int, 0 ≤ i → i ≤ m → (∀ y : Int, 0 ≤ y → y < i → ((rowAt g y).length : Int) = n ∧ ∀ x : Int, 0 ≤ x → x < n → within most (cell g y x)) → head 47 4 0 ⟨[(1, .int .i64 n), (2, .int .i64 most), (15, .slice a m c), (16, .int .i64 (ofNat m)), (17, .int .i64 i)], 0, [], h⟩ Q := by
  have hl := hg.len
  refine countUp (fun i hi0 hin ih hall => ?_)
  refine hA.roundR Try.func47 r47_ok ?_; (try (conv => cbv)); repeat (refine brk_ok hA ?_; (try (conv => cbv)))
  refine br (i < m) (by rw [e_lss hA, e_ofNat hA]) (fun c1 => ?_) (fun c1 => ?_) <;> (try (conv => cbv)) <;> repeat (refine brk_ok hA ?_; (try (conv => cbv)))
  · obtain ⟨b, o, ra, rn, rc, rfl, hb, hrd, hrow, hrl⟩ := hg.row hi0 c1
    refine ⟨b, o, rfl, in_ok hA hi0 c1, ?_⟩
    ((try (conv => cbv)); repeat (refine brk_ok hA ?_; (try (conv => cbv))))
    refine ⟨ra, rn, rc, rd_ok hA hrd, ?_⟩
    ((try (conv => cbv)); repeat (refine brk_ok hA ?_; (try (conv => cbv))))
    refine br ((rn : Int) ≠ n) (by rw [e_neq hA, e_ofNat hA]) (fun c2 => ?_) (fun c2 => ?_) <;> (try (conv => cbv)) <;> repeat (refine brk_ok hA ?_; (try (conv => cbv)))
    · exact h1 _ _ _ (fun q => c2 (by have := (q.2 i hi0 (by omega)).1; omega))
    · refine sq_inner hA hm0 hm1 hrow (by omega) ?_ ?_ 0 (by omega) (by omega) (fun x h2 h3 => by omega)
      · intro hrowok
        ((try (conv => cbv)); repeat (refine brk_ok hA ?_; (try (conv => cbv))))
        rw [add64 hA (by omega) (by omega)]
        refine ih c1 (fun y h2 h3 => ?_)
        by_cases e : y = i
        · subst e
          exact ⟨by omega, fun x h4 h5 => hrowok x h4 (by omega)⟩
        · exact hall y h2 (by omega)
      · rintro e kn K ⟨x, h2, h3, h4⟩
        exact h1 _ _ _ (fun q => h4 ((q.2 i hi0 (by omega)).2 x h2 (by omega)))
  · exact h0 ⟨by omega, fun y h2 h3 => hall y h2 (by omega)⟩

theorem isSquare_ok {h : AHeap} (hlow : h.low ≤ h.next) {a : Option Addr} {m c : Nat} {g : Grid} (hg : Img h a m g) {n most : Int} (hm0 : 0 ≤ most) (hm1 : most ≤ 1000000000) (hn : n ≤ 1073741824000) {Q : Value → AHeap → Prop}
    (hQ : ∀ r : Bool, (r = true ↔ squareP g n most) → Q (.bool r) h) : call 47 [.slice a m c, .int .i64 n, .int .i64 most] h Q := by
  have hl := hg.len
  refine hA.bodyR Try.func47 r47_ok (show prims _ _ _ = none from rfl) hlow ?_; (try (conv => cbv)); repeat (refine brk_ok hA ?_; (try (conv => cbv)))
  refine br ((m : Int) ≠ n) (by rw [e_neq hA, e_ofNat hA]) (fun c1 => ?_) (fun c1 => ?_) <;> (try (conv => cbv)) <;> repeat (refine brk_ok hA ?_; (try (conv => cbv)))
  · exact hQ _ (no (fun q => c1 (by have := q.1; omega)))
  · refine sq_outer hA hm0 hm1 hg hn (by omega) ?_ ?_ 0 (by omega) (by omega) (fun y h2 h3 => by omega)
    · intro q
      ((try (conv => cbv)); repeat (refine brk_ok hA ?_; (try (conv => cbv))))
      exact hQ _ (yes q)
    · intro e kn K q
      ((try (conv => cbv)); repeat (refine brk_ok hA ?_; (try (conv => cbv))))
      exact hQ _ (no q)

theorem isImage_ok {h : AHeap} (hlow : h.low ≤ h.next) {a : Option Addr} {m c : Nat} {g : Grid} (hg : Img h a m g) {most : Int} (hm0 : 0 ≤ most) (hm1 : most ≤ 1000000000) {Q : Value → AHeap → Prop}
    (hQ : ∀ r : Bool, (r = true ↔ imgP g most) → Q (.bool r) h) : call 35 [.slice a m c, .int .i64 most] h Q := by
  have hl := hg.len
  refine hA.bodyR Try.func35 r35_ok (show prims _ _ _ = none from rfl) hlow ?_; (try (conv => cbv)); repeat (refine brk_ok hA ?_; (try (conv => cbv)))
  refine br (1 ≤ (m : Int)) (by rw [e_geq hA, e_ofNat hA]) (fun c1 => ?_) (fun c1 => ?_) <;> (try (conv => cbv)) <;> repeat (refine brk_ok hA ?_; (try (conv => cbv)))
  · refine br ((m : Int) ≤ 8) (by rw [e_leq hA, e_ofNat hA]) (fun c2 => ?_) (fun c2 => ?_) <;> (try (conv => cbv)) <;> repeat (refine brk_ok hA ?_; (try (conv => cbv)))
    · refine isSquare_ok hA hlow hg hm0 hm1 (n := ofNat m) (by rw [e_ofNat hA]; omega) (fun r hr => ⟨_, rfl, ?_⟩)
      ((try (conv => cbv)); repeat (refine brk_ok hA ?_; (try (conv => cbv))))
      refine hQ _ ?_
      rw [hr, e_ofNat hA]
      unfold imgP
      rw [hl]
      exact ⟨fun q => ⟨c1, c2, q⟩, fun q => q.2.2⟩
    · exact hQ _ (no (fun q => c2 (by have := q.2.1; omega)))
  · exact hQ _ (no (fun q => c1 (by have := q.1; omega)))

theorem isBeam_ok {h : AHeap} (hlow : h.low ≤ h.next) {a : Option Addr} {m c : Nat} {g : Grid} (hg : Img h a m g) {n : Int} (hn0 : 1 ≤ n) (hn1 : n ≤ 1000000) {Q : Value → AHeap → Prop}
    (hQ : ∀ r : Bool, (r = true ↔ beamP g n) → Q (.bool r) h) : call 37 [.slice a m c, .int .i64 n] h Q := by
  have hl := hg.len
  refine hA.bodyR Try.func37 r37_ok (show prims _ _ _ = none from rfl) hlow ?_; (try (conv => cbv)); repeat (refine brk_ok hA ?_; (try (conv => cbv)))
  have e1 : arith .mul .i64 2 n = 2 * n := mul64 hA (by omega) (by omega)
  have e2 : arith .sub .i64 (2 * n) 1 = 2 * n - 1 := sub64 hA (by omega) (by omega)
  have e3 : arith .sub .i64 n 1 = n - 1 := sub64 hA (by omega) (by omega)
  rw [e1, e2]
  refine isSquare_ok hA hlow hg (by omega) (by omega) (by omega) (fun r hr => ⟨_, rfl, ?_⟩)
  ((try (conv => cbv)); repeat (refine brk_ok hA ?_; (try (conv => cbv))))
  cases r with
  | false => exact hQ _ (no (fun q => by have := hr.2 q.1; cases this))
  | true =>
    have q := hr.1 rfl
    have hq1 := q.1
    ((try (conv => cbv)); repeat (refine brk_ok hA ?_; (try (conv => cbv))))
    rw [e3]
    obtain ⟨b, o, ra, rn, rc, rfl, hb, hrd, hrow, hrl⟩ := hg.row (i := n - 1) (by omega) (by omega)
    have hq2 := (q.2 (n - 1) (by omega) (by omega)).1
    refine ⟨b, o, rfl, in_ok hA (by omega) (by omega), ?_⟩
    ((try (conv => cbv)); repeat (refine brk_ok hA ?_; (try (conv => cbv))))
    refine ⟨ra, rn, rc, rd_ok hA hrd, ?_⟩
    ((try (conv => cbv)); repeat (refine brk_ok hA ?_; (try (conv => cbv))))
    obtain ⟨b2, o2, x, rfl, hb2, hx, hrd2⟩ := hrow.at (i := n - 1) (by omega) (by omega)
    rw [e3]
    refine ⟨b2, o2, rfl, in_ok hA (by omega) (by omega), ?_⟩
    ((try (conv => cbv)); repeat (refine brk_ok hA ?_; (try (conv => cbv))))
    refine ⟨x, rd_ok hA hrd2, ?_⟩
    ((try (conv => cbv)); repeat (refine brk_ok hA ?_; (try (conv => cbv))))
    refine hQ _ ?_
    rw [e_gtr hA, hx]
    unfold beamP cell
    simp only [decide_eq_true_eq]
    exact ⟨fun h => ⟨q, h⟩, fun h => h.2⟩

theorem great_loop {h : AHeap} {a : Option Addr} {m c : Nat} {g : Grid} (hg : Img h a m g) (hm : (m : Int) ≤ 4611686018427387904) {Q : Exit → SS → Prop}
    (h0 : (∀ y : Int, 0 ≤ y → y < m → ((rowAt g y).length : Int) ≤ 20) → Q (.exit 0) ⟨[(0, .slice a m c)], 0, [], h⟩) (h1 : ∀ e kn K, greatP g → Q .ret ⟨(2, .bool true) :: e, kn, K, h⟩) :
    ∀ i : Int, 0 ≤ i → i ≤ m → (∀ y : Int, 0 ≤ y → y < i → ((rowAt g y).length : Int) ≤ 20) → head 10 2 0 ⟨[(0, .slice a m c), (3, .int .i64 i)], 0, [], h⟩ Q := by
  have hl := hg.len
  refine countUp (fun i hi0 hin ih hall => ?_)
  refine hA.roundR Try.func10 r10_ok ?_; (try (conv => cbv)); repeat (refine brk_ok hA ?_; (try (conv => cbv)))
  refine br (i < m) (by rw [e_lss hA, e_ofNat hA]) (fun c1 => ?_) (fun c1 => ?_) <;> (try (conv => cbv)) <;> repeat (refine brk_ok hA ?_; (try (conv => cbv)))
  · obtain ⟨b, o, ra, rn, rc, rfl, hb, hrd, hrow, hrl⟩ := hg.row hi0 c1
    refine ⟨b, o, rfl, in_ok hA hi0 c1, ?_⟩
    ((try (conv => cbv)); repeat (refine brk_ok hA ?_; (try (conv => cbv))))
    refine ⟨ra, rn, rc, rd_ok hA hrd, ?_⟩
    ((try (conv => cbv)); repeat (refine brk_ok hA ?_; (try (conv => cbv))))
    refine br (20 < (rn : Int)) (by rw [e_gtr hA, e_ofNat hA]) (fun c2 => ?_) (fun c2 => ?_) <;> (try (conv => cbv)) <;> repeat (refine brk_ok hA ?_; (try (conv => cbv)))
    · exact h1 _ _ _ (.inr ⟨i, hi0, by omega, by omega⟩)
    · rw [add64 hA (by omega) (by omega)]
      refine ih c1 (fun y h2 h3 => ?_)
      by_cases e : y = i
      · rw [e]; omega
      · exact hall y h2 (by omega)
  · exact h0 (fun y h2 h3 => hall y h2 (by omega))

theorem great_ok {h : AHeap} (hlow : h.low ≤ h.next) {a : Option Addr} {m c : Nat} {g : Grid} (hg : Img h a m g) (hm : (m : Int) ≤ 4611686018427387904) {Q : Value → AHeap → Prop}
    (hQ : ∀ r : Bool, (r = true ↔ greatP g) → Q (.bool r) h) : call 10 [.slice a m c] h Q := by
  have hl := hg.len
  refine hA.bodyR Try.func10 r10_ok (show prims _ _ _ = none from rfl) hlow ?_; (try (conv => cbv)); repeat (refine brk_ok hA ?_; (try (conv => cbv)))
  refine great_loop hA hg hm ?_ ?_ 0 (by omega) (by omega) (fun y h2 h3 => by omega)
  · intro q
    ((try (conv => cbv)); repeat (refine brk_ok hA ?_; (try (conv => cbv))))
    refine hQ _ ?_
    rw [e_gtr hA, e_ofNat hA]
    unfold greatP
    simp only [decide_eq_true_eq]
    rw [hl]
    refine ⟨fun h => .inl h, fun h => ?_⟩
    rcases h with h | ⟨y, h2, h3, h4⟩
    · exact h
    · have := q y h2 h3; omega
  · intro e kn K q
    ((try (conv => cbv)); repeat (refine brk_ok hA ?_; (try (conv => cbv))))
    exact hQ _ (yes q)

end Go.Proofs.Ytogofeppflindaa
