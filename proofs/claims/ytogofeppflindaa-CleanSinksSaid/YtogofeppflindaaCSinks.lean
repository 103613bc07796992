/-
  The law CleanSinks: its walk.
-/
import Derived.Test.YtogofeppflindaaCTwo
import Derived.Test.YtogofeppflindaaSeatL5
namespace Go.Proofs.Ytogofeppflindaa
open Go.Sim
set_option linter.unusedVariables false
set_option maxRecDepth 100000

variable {call : FuncId → List Value → AHeap → (Value → AHeap → Prop) → Prop}
  {head : FuncId → Nat → Nat → SS → (Exit → SS → Prop) → Prop}
  {arith : BinOp → IntKind → Int → Int → Int}
  {cmp : BinOp → Int → Int → Bool}
  {scmp : BinOp → ByteArray → ByteArray → Bool}
  {bnot : Bool → Bool}
  {bsame : Bool → Bool → Bool}
  {conv : IntKind → Int → Int}
  {neg : IntKind → Int → Int}
  {imax : Int → Int → Int}
  {imin : Int → Int → Int}
  {ofNat : Nat → Int}
  {slen : ByteArray → Int}
  {place : Nat → Int → Nat → Nat}
  {inR : Int → Nat → Prop}
  {nz : Int → Prop}
  {geZ : Int → Prop}
  {rd : AHeap → Nat → Nat → Nat → List Value → Prop}
  {wr : AHeap → Nat → Nat → List Value → AHeap → Prop}
  {push : AHeap → Nat → List Value → AHeap}
  {next : AHeap → Nat}
  {mkOK : Int → Int → Prop}
  {nat : Int → Nat}
  {zeros : List Value → Int → List Value}
  {sadd : ByteArray → ByteArray → (ByteArray → Prop) → Prop}
  {eqAgg : TypeId → Array Value → Array Value → (Bool → Prop) → Prop}
  {cut : Nat → Int → Prop}
  {slc : TypeId → Value → Option Value → Option Value → Option Value → (Option Addr → Nat → Nat → Prop) → Prop}
  {sslc : TypeId → ByteArray → Option Value → Option Value → (ByteArray → Prop) → Prop}
  {strAt : ByteArray → Int → (Int → Prop) → Prop}
  {part : TypeId → Array Value → Nat → Value → Prop}
  {app : List TypeId → List Value → AHeap → (Option Addr → Nat → Nat → AHeap → Prop) → Prop}
  {cpy : List TypeId → List Value → AHeap → (Int → AHeap → Prop) → Prop}
  {putAt : AHeap → Nat → Nat → List Value → AHeap}
  {fresh : AHeap → AHeap}
  {lowered : AHeap → AHeap → AHeap}
  {bump : AHeap → Nat → AHeap}
  {wrote : AHeap → AHeap → Bool}
  {addN : Nat → Nat → Nat}
  {lt : Nat → Nat → Prop}
  {ne : Nat → Nat → Prop}
  {fpAll : Bool → Bool → Bool → Nat → Nat → Prop}
  {brk : (Unit → Prop) → Prop}
  {yn : Nat → Nat}
  {rng : FuncId → Nat → SS → (Exit → SS → Prop) → Prop}
  {mget : TypeId → Value → Value → AHeap → Value → Bool → Prop}
  {mput : TypeId → Value → Value → Value → AHeap → AHeap → Prop}
  {mnew : AHeap → AHeap}
  {bytes : TypeId → TypeId → Option Addr → Nat → AHeap → ByteArray → Prop}
  {clr : List TypeId → List Value → AHeap → AHeap → Prop}
  (hA : AOK progU hint prims ⟨call, head, arith, cmp, scmp, bnot, bsame, conv, neg, imax, imin, ofNat, slen, place, inR, nz, geZ, rd, wr, push, next, mkOK, nat, zeros, sadd, eqAgg, cut, slc, sslc, strAt, part, app, cpy, putAt, fresh, lowered, bump, wrote, addN, lt, ne, fpAll, brk, yn, rng, mget, mput, mnew, bytes, clr⟩)
include hA

theorem pos_inner {h : AHeap} {vI : Value} {ab : Option Addr} {mb kb : Nat} {bm : Grid} (hb : Img h ab mb bm) (hmb : (mb : Int) ≤ 1000) {v5 : Value} {cs : List Value} {y : Int} (y0 : 0 ≤ y) (y1 : y < mb) (hrl : ((rowAt bm y).length : Int) = mb) {Q : Exit → SS → Prop}
    (h1 : (∀ x : Int, 0 ≤ x → x < mb → 0 ≤ cell bm y x) → Q (.exit 2) ⟨[(0, vI), (1, .slice ab mb kb), (5, v5), (7, .bool true), (8, .int .i64 y)], 1, [(0, cs)], h⟩)
    (h2 : ∀ e kn K, Q .ret ⟨(6, .bool true) :: e, kn, K, h⟩) :
    ∀ x : Int, 0 ≤ x → x ≤ mb → (∀ x' : Int, 0 ≤ x' → x' < x → 0 ≤ cell bm y x') → head 5 8 1 ⟨[(0, vI), (1, .slice ab mb kb), (5, v5), (7, .bool true), (8, .int .i64 y), (9, .int .i64 x)], 1, [(0, cs)], h⟩ Q := by
  refine countUp (fun x hx0 hxn ih hall => ?_)
  refine hA.roundR Try.func5 r5_ok ?_; (try (conv => cbv)); repeat (refine brk_ok hA ?_; (try (conv => cbv)))
  refine br (x < mb) (by rw [e_lss hA, e_ofNat hA]) (fun c1 => ?_) (fun c1 => ?_) <;> (try (conv => cbv)) <;> repeat (refine brk_ok hA ?_; (try (conv => cbv)))
  · obtain ⟨b, o, ra, rn, rc, hae, hbn, hrd, hrow, hrl2⟩ := hb.row y0 y1
    refine ⟨b, o, hae, in_ok hA y0 y1, ?_⟩
    ((try (conv => cbv)); repeat (refine brk_ok hA ?_; (try (conv => cbv))))
    refine ⟨ra, rn, rc, rd_ok hA hrd, ?_⟩
    ((try (conv => cbv)); repeat (refine brk_ok hA ?_; (try (conv => cbv))))
    obtain ⟨b2, o2, z, hae2, hb2, hz, hrd2⟩ := hrow.at hx0 (by omega)
    refine ⟨b2, o2, hae2, in_ok hA hx0 (by omega), ?_⟩
    ((try (conv => cbv)); repeat (refine brk_ok hA ?_; (try (conv => cbv))))
    refine ⟨z, rd_ok hA hrd2, ?_⟩
    ((try (conv => cbv)); repeat (refine brk_ok hA ?_; (try (conv => cbv))))
    have hzc : z = cell bm y x := hz
    refine br (z < 0) (by rw [e_lss hA]) (fun c2 => ?_) (fun c2 => ?_) <;> (try (conv => cbv)) <;> repeat (refine brk_ok hA ?_; (try (conv => cbv)))
    · exact h2 _ _ _
    rw [add64 hA (by omega) (by omega)]
    refine ih c1 (fun x' h3 h4 => ?_)
    by_cases e : x' = x
    · rw [e, ← hzc]; omega
    · exact hall x' h3 (by omega)
  · exact h1 (fun x' h3 h4 => hall x' h3 (by omega))

theorem pos_outer {h : AHeap} {vI : Value} {ab : Option Addr} {mb kb : Nat} {bm : Grid} (hb : Img h ab mb bm) (hmb : (mb : Int) ≤ 1000) (hs : shp bm mb) {v5 : Value} {cs : List Value} {Q : Exit → SS → Prop}
    (h1 : (∀ y x : Int, 0 ≤ y → y < mb → 0 ≤ x → x < mb → 0 ≤ cell bm y x) → Q (.exit 0) ⟨[(0, vI), (1, .slice ab mb kb), (5, v5), (7, .bool true)], 1, [(0, cs)], h⟩)
    (h2 : ∀ e kn K, Q .ret ⟨(6, .bool true) :: e, kn, K, h⟩) :
    ∀ y : Int, 0 ≤ y → y ≤ mb → (∀ y' x : Int, 0 ≤ y' → y' < y → 0 ≤ x → x < mb → 0 ≤ cell bm y' x) → head 5 5 1 ⟨[(0, vI), (1, .slice ab mb kb), (5, v5), (7, .bool true), (8, .int .i64 y)], 1, [(0, cs)], h⟩ Q := by
  refine countUp (fun y hy0 hyn ih hall => ?_)
  refine hA.roundR Try.func5 r5_ok ?_; (try (conv => cbv)); repeat (refine brk_ok hA ?_; (try (conv => cbv)))
  refine br (y < mb) (by rw [e_lss hA, e_ofNat hA]) (fun c1 => ?_) (fun c1 => ?_) <;> (try (conv => cbv)) <;> repeat (refine brk_ok hA ?_; (try (conv => cbv)))
  · refine pos_inner hA hb hmb hy0 c1 (hs.2 y hy0 c1) (fun hrow => ?_) (fun e kn K => ?_) 0 (by omega) (by omega) (fun x' h3 h4 => by omega)
    · ((try (conv => cbv)); repeat (refine brk_ok hA ?_; (try (conv => cbv))))
      rw [add64 hA (by omega) (by omega)]
      refine ih c1 (fun y' x h3 h4 h5 h6 => ?_)
      by_cases e : y' = y
      · rw [e]; exact hrow x h5 h6
      · exact hall y' x h3 (by omega) h5 h6
    · exact h2 _ _ _
  · exact h1 (fun y' x h3 h4 h5 h6 => hall y' x h3 (by omega) h5 h6)

theorem hit_loop {h0 : AHeap} {ai aL : Option Addr} {mi ci mL cL : Nat} {ab : Option Addr} {mb kb : Nat} {bm : Grid} (hb : Img h0 ab mb bm) {al : Option Addr} {kl cl : Nat} {l : List Comp} (hl : Log h0 al kl l) (hkl : (kl : Int) ≤ 1000) {n : Int} (n1 : 1 ≤ n) (n8 : n ≤ 8) (hbm : beamP bm n) (hlog : logP n l) {cs : List Value} {y x : Int} (y0 : 0 ≤ y) (y1 : y < n) (x0 : 0 ≤ x) (x1 : x < n) {Q : Exit → SS → Prop}
    (h1 : ∀ (hit : Bool) h', Ext h0 h' → (hit = false → ∀ p ∈ l, cell bm (y - p.y + n - 1) (x - p.x + n - 1) = 0) → Q (.exit 8) ⟨[(0, .slice ai mi ci), (1, .slice ab mb kb), (7, .bool true), (10, .slice aL mL cL), (11, .slice al kl cl), (13, .int .i64 n), (14, .int .i64 y), (15, .int .i64 x), (16, .bool hit)], 1, [(0, cs)], h'⟩) :
    ∀ i : Int, 0 ≤ i → i ≤ kl → ∀ (hit : Bool) h, Ext h0 h → (hit = false → ∀ j : Int, 0 ≤ j → j < i → cell bm (y - (ca l j).y + n - 1) (x - (ca l j).x + n - 1) = 0) → head 5 26 1 ⟨[(0, .slice ai mi ci), (1, .slice ab mb kb), (7, .bool true), (10, .slice aL mL cL), (11, .slice al kl cl), (13, .int .i64 n), (14, .int .i64 y), (15, .int .i64 x), (16, .bool hit), (17, .int .i64 i)], 1, [(0, cs)], h⟩ Q := by
  have hll := hl.len
  have hbl := hb.len
  have hbs := hbm.1.1
  refine countUp (fun i hi0 hin ih hit h e hall => ?_)
  refine hA.roundR Try.func5 r5_ok ?_; (try (conv => cbv)); repeat (refine brk_ok hA ?_; (try (conv => cbv)))
  refine br (i < kl) (by rw [e_lss hA, e_ofNat hA]) (fun c1 => ?_) (fun c1 => ?_) <;> (try (conv => cbv)) <;> repeat (refine brk_ok hA ?_; (try (conv => cbv)))
  · obtain ⟨h9, hh9⟩ : ∃ z, z = bump h 30 := ⟨_, rfl⟩
    obtain ⟨nh, hnh⟩ : ∃ z, z = next h := ⟨_, rfl⟩
    have e9 : Ext h0 h9 := by rw [hh9, e_bump hA]; exact e.trans (.bump _ _)
    have ha : arith .add .i64 i 1 = i + 1 := add64 hA (by omega) (by omega)
    rw [← hh9, ← hnh]
    cases hit with
    | true =>
      ((try (conv => cbv)); repeat (refine brk_ok hA ?_; (try (conv => cbv))))
      rw [ha]
      exact ih c1 true h9 e9 (fun q => by cases q)
    | false =>
      ((try (conv => cbv)); repeat (refine brk_ok hA ?_; (try (conv => cbv))))
      obtain ⟨b, o, px, py, pf, hae, hbn, hca, _, hrx, hry, hrf⟩ := (hl.ext e9).at hi0 c1
      have hp := hlog.2 i hi0 (by omega)
      rw [hca] at hp
      obtain ⟨p1, p2, p3, p4, _⟩ := hp
      simp only [] at p1 p2 p3 p4
      refine ⟨b, o, hae, in_ok hA hi0 c1, ?_⟩
      ((try (conv => cbv)); repeat (refine brk_ok hA ?_; (try (conv => cbv))))
      refine ⟨py, rd_fld hA hry, ?_⟩
      ((try (conv => cbv)); repeat (refine brk_ok hA ?_; (try (conv => cbv))))
      have a1 : arith .sub .i64 y py = y - py := sub64 hA (by omega) (by omega)
      have a2 : arith .add .i64 (y - py) n = y - py + n := add64 hA (by omega) (by omega)
      obtain ⟨iy, hiy⟩ : ∃ v, v = y - py + n - 1 := ⟨_, rfl⟩
      have a3 : arith .sub .i64 (y - py + n) 1 = iy := by rw [hiy]; exact sub64 hA (by omega) (by omega)
      rw [a1, a2, a3]
      obtain ⟨b2, o2, ra2, rn2, rc2, hae2, hb2n, hrd2, hrow2, hrl2⟩ := (hb.ext e9).row (i := iy) (by omega) (by omega)
      have hl2 := (hbm.1.2 iy (by omega) (by omega)).1
      refine ⟨b2, o2, hae2, in_ok hA (by omega) (by omega), ?_⟩
      ((try (conv => cbv)); repeat (refine brk_ok hA ?_; (try (conv => cbv))))
      refine ⟨ra2, rn2, rc2, rd_ok hA hrd2, ?_⟩
      ((try (conv => cbv)); repeat (refine brk_ok hA ?_; (try (conv => cbv))))
      refine ⟨b, o, hae, in_ok hA hi0 c1, ?_⟩
      ((try (conv => cbv)); repeat (refine brk_ok hA ?_; (try (conv => cbv))))
      refine ⟨px, rd_fld hA hrx, ?_⟩
      ((try (conv => cbv)); repeat (refine brk_ok hA ?_; (try (conv => cbv))))
      have d1 : arith .sub .i64 x px = x - px := sub64 hA (by omega) (by omega)
      have d2 : arith .add .i64 (x - px) n = x - px + n := add64 hA (by omega) (by omega)
      obtain ⟨ix, hix⟩ : ∃ v, v = x - px + n - 1 := ⟨_, rfl⟩
      have d3 : arith .sub .i64 (x - px + n) 1 = ix := by rw [hix]; exact sub64 hA (by omega) (by omega)
      rw [d1, d2, d3]
      obtain ⟨b4, o4, z, hae4, hb4n, hz, hrd4⟩ := hrow2.at (i := ix) (by omega) (by omega)
      refine ⟨b4, o4, hae4, in_ok hA (by omega) (by omega), ?_⟩
      ((try (conv => cbv)); repeat (refine brk_ok hA ?_; (try (conv => cbv))))
      refine ⟨z, rd_ok hA hrd4, ?_⟩
      ((try (conv => cbv)); repeat (refine brk_ok hA ?_; (try (conv => cbv))))
      have hzc : z = cell bm iy ix := hz
      rw [ha]
      refine ih c1 _ h9 e9 (fun hq j j0 j1 => ?_)
      rw [e_neq hA] at hq
      by_cases ej : j = i
      · rw [ej, hca]
        show cell bm (y - py + n - 1) (x - px + n - 1) = 0
        rw [← hiy, ← hix, ← hzc]
        by_cases z0 : z = 0
        · exact z0
        · simp [z0] at hq
      · exact hall rfl j j0 (by omega)
  · refine h1 hit h e (fun hh p hp => ?_)
    obtain ⟨j, hj⟩ := List.getElem?_of_mem hp
    have hjl : j < l.length := (List.getElem?_eq_some_iff.1 hj).1
    have := hall hh j (by omega) (by omega)
    unfold ca at this
    rw [Int.toNat_natCast, List.getD, hj] at this
    exact this

theorem sink_inner {h0 : AHeap} {ai : Option Addr} {mi ci : Nat} {img : Grid} (hg : Img h0 ai mi img) {aL : Option Addr} {mL cL : Nat} {g : Grid} (hgl : Img h0 aL mL g) {ab : Option Addr} {mb kb : Nat} {bm : Grid} (hb : Img h0 ab mb bm) {al : Option Addr} {kl cl : Nat} {l : List Comp} (hl : Log h0 al kl l) (hkl : (kl : Int) ≤ 1000) {n : Int} (n1 : 1 ≤ n) (n8 : n ≤ 8) (hmi : (mi : Int) = n) (hmL : (mL : Int) = n) (hsi : shp img n) (hsg : shp g n) (hbm : beamP bm n) (hlog : logP n l)
    (law : ∀ y x : Int, 0 ≤ y → y < n → 0 ≤ x → x < n → cell g y x ≤ cell img y x ∧ ((∀ p ∈ l, cell bm (y - p.y + n - 1) (x - p.x + n - 1) = 0) → cell g y x = cell img y x)) {cs : List Value} {y : Int} (y0 : 0 ≤ y) (y1 : y < n) {Q : Exit → SS → Prop}
    (h1 : ∀ h', Ext h0 h' → Q (.exit 6) ⟨[(0, .slice ai mi ci), (1, .slice ab mb kb), (7, .bool true), (10, .slice aL mL cL), (11, .slice al kl cl), (13, .int .i64 n), (14, .int .i64 y)], 1, [(0, cs)], h'⟩) :
    ∀ x : Int, 0 ≤ x → x ≤ mi → ∀ h, Ext h0 h → head 5 22 1 ⟨[(0, .slice ai mi ci), (1, .slice ab mb kb), (7, .bool true), (10, .slice aL mL cL), (11, .slice al kl cl), (13, .int .i64 n), (14, .int .i64 y), (15, .int .i64 x)], 1, [(0, cs)], h⟩ Q := by
  refine countUp (fun x hx0 hxn ih h e => ?_)
  refine hA.roundR Try.func5 r5_ok ?_; (try (conv => cbv)); repeat (refine brk_ok hA ?_; (try (conv => cbv)))
  refine br (x < n) (by rw [e_lss hA]) (fun c1 => ?_) (fun c1 => ?_) <;> (try (conv => cbv)) <;> repeat (refine brk_ok hA ?_; (try (conv => cbv)))
  · refine hit_loop hA hb hl hkl n1 n8 hbm hlog y0 y1 hx0 c1 (fun hit h5 e5 hz => ?_) 0 (by omega) (by omega) false h e (fun _ j j0 j1 => by omega)
    ((try (conv => cbv)); repeat (refine brk_ok hA ?_; (try (conv => cbv))))
    obtain ⟨h9, hh9⟩ : ∃ z, z = bump h5 36 := ⟨_, rfl⟩
    obtain ⟨nh, hnh⟩ : ∃ z, z = next h5 := ⟨_, rfl⟩
    have e9 : Ext h0 h9 := by rw [hh9, e_bump hA]; exact e5.trans (.bump _ _)
    have ha : arith .add .i64 x 1 = x + 1 := add64 hA (by omega) (by omega)
    rw [← hh9, ← hnh]
    obtain ⟨l1, l2⟩ := law y x y0 y1 hx0 c1
    have hri := hsi.2 y y0 y1
    have hrg := hsg.2 y y0 y1
    obtain ⟨b, o, ra, rn, rc, hae, hbn, hrd, hrow, hrl⟩ := (hgl.ext e9).row y0 (by omega)
    obtain ⟨b2, o2, z, hae2, hb2, hz1, hrd2⟩ := hrow.at hx0 (by omega)
    obtain ⟨b', o', ra', rn', rc', hae', hbn', hrd', hrow', hrl'⟩ := (hg.ext e9).row y0 (by omega)
    obtain ⟨b2', o2', z', hae2', hb2', hz1', hrd2'⟩ := hrow'.at hx0 (by omega)
    have hzc : z = cell g y x := hz1
    have hzc' : z' = cell img y x := hz1'
    refine ⟨b, o, hae, in_ok hA y0 (by omega), ?_⟩
    ((try (conv => cbv)); repeat (refine brk_ok hA ?_; (try (conv => cbv))))
    refine ⟨ra, rn, rc, rd_ok hA hrd, ?_⟩
    ((try (conv => cbv)); repeat (refine brk_ok hA ?_; (try (conv => cbv))))
    refine ⟨b2, o2, hae2, in_ok hA hx0 (by omega), ?_⟩
    ((try (conv => cbv)); repeat (refine brk_ok hA ?_; (try (conv => cbv))))
    refine ⟨z, rd_ok hA hrd2, ?_⟩
    ((try (conv => cbv)); repeat (refine brk_ok hA ?_; (try (conv => cbv))))
    refine ⟨b', o', hae', in_ok hA y0 (by omega), ?_⟩
    ((try (conv => cbv)); repeat (refine brk_ok hA ?_; (try (conv => cbv))))
    refine ⟨ra', rn', rc', rd_ok hA hrd', ?_⟩
    ((try (conv => cbv)); repeat (refine brk_ok hA ?_; (try (conv => cbv))))
    refine ⟨b2', o2', hae2', in_ok hA hx0 (by omega), ?_⟩
    ((try (conv => cbv)); repeat (refine brk_ok hA ?_; (try (conv => cbv))))
    refine ⟨z', rd_ok hA hrd2', ?_⟩
    ((try (conv => cbv)); repeat (refine brk_ok hA ?_; (try (conv => cbv))))
    refine br (z' < z) (by rw [e_gtr hA]) (fun c2 => by omega) (fun c2 => ?_) <;> (try (conv => cbv)) <;> repeat (refine brk_ok hA ?_; (try (conv => cbv)))
    have bt : bnot true = false := by rw [e_bnot hA]; rfl
    have bf : bnot false = true := by rw [e_bnot hA]; rfl
    cases hit with
    | true =>
      rw [bt]
      ((try (conv => cbv)); repeat (refine brk_ok hA ?_; (try (conv => cbv))))
      rw [ha]
      exact ih (by omega) h9 e9
    | false =>
      rw [bf]
      ((try (conv => cbv)); repeat (refine brk_ok hA ?_; (try (conv => cbv))))
      refine ⟨b, o, hae, in_ok hA y0 (by omega), ?_⟩
      ((try (conv => cbv)); repeat (refine brk_ok hA ?_; (try (conv => cbv))))
      refine ⟨ra, rn, rc, rd_ok hA hrd, ?_⟩
      ((try (conv => cbv)); repeat (refine brk_ok hA ?_; (try (conv => cbv))))
      refine ⟨b2, o2, hae2, in_ok hA hx0 (by omega), ?_⟩
      ((try (conv => cbv)); repeat (refine brk_ok hA ?_; (try (conv => cbv))))
      refine ⟨z, rd_ok hA hrd2, ?_⟩
      ((try (conv => cbv)); repeat (refine brk_ok hA ?_; (try (conv => cbv))))
      refine ⟨b', o', hae', in_ok hA y0 (by omega), ?_⟩
      ((try (conv => cbv)); repeat (refine brk_ok hA ?_; (try (conv => cbv))))
      refine ⟨ra', rn', rc', rd_ok hA hrd', ?_⟩
      ((try (conv => cbv)); repeat (refine brk_ok hA ?_; (try (conv => cbv))))
      refine ⟨b2', o2', hae2', in_ok hA hx0 (by omega), ?_⟩
      ((try (conv => cbv)); repeat (refine brk_ok hA ?_; (try (conv => cbv))))
      refine ⟨z', rd_ok hA hrd2', ?_⟩
      ((try (conv => cbv)); repeat (refine brk_ok hA ?_; (try (conv => cbv))))
      have := l2 (hz rfl)
      refine br (z ≠ z') (by rw [e_neq hA]) (fun c3 => by omega) (fun c3 => ?_) <;> (try (conv => cbv)) <;> repeat (refine brk_ok hA ?_; (try (conv => cbv)))
      rw [ha]
      exact ih (by omega) h9 e9
  · exact h1 h e

theorem sink_outer {h0 : AHeap} {ai : Option Addr} {mi ci : Nat} {img : Grid} (hg : Img h0 ai mi img) {aL : Option Addr} {mL cL : Nat} {g : Grid} (hgl : Img h0 aL mL g) {ab : Option Addr} {mb kb : Nat} {bm : Grid} (hb : Img h0 ab mb bm) {al : Option Addr} {kl cl : Nat} {l : List Comp} (hl : Log h0 al kl l) (hkl : (kl : Int) ≤ 1000) {n : Int} (n1 : 1 ≤ n) (n8 : n ≤ 8) (hmi : (mi : Int) = n) (hmL : (mL : Int) = n) (hsi : shp img n) (hsg : shp g n) (hbm : beamP bm n) (hlog : logP n l)
    (law : ∀ y x : Int, 0 ≤ y → y < n → 0 ≤ x → x < n → cell g y x ≤ cell img y x ∧ ((∀ p ∈ l, cell bm (y - p.y + n - 1) (x - p.x + n - 1) = 0) → cell g y x = cell img y x)) {cs : List Value} {Q : Exit → SS → Prop}
    (h1 : ∀ h' kn K, Ext h0 h' → Q (.exit 4) ⟨[(7, .bool true)], kn, K, h'⟩) :
    ∀ y : Int, 0 ≤ y → y ≤ mi → ∀ h, Ext h0 h → head 5 19 1 ⟨[(0, .slice ai mi ci), (1, .slice ab mb kb), (7, .bool true), (10, .slice aL mL cL), (11, .slice al kl cl), (13, .int .i64 n), (14, .int .i64 y)], 1, [(0, cs)], h⟩ Q := by
  refine countUp (fun y hy0 hyn ih h e => ?_)
  refine hA.roundR Try.func5 r5_ok ?_; (try (conv => cbv)); repeat (refine brk_ok hA ?_; (try (conv => cbv)))
  refine br (y < n) (by rw [e_lss hA]) (fun c1 => ?_) (fun c1 => ?_) <;> (try (conv => cbv)) <;> repeat (refine brk_ok hA ?_; (try (conv => cbv)))
  · refine sink_inner hA hg hgl hb hl hkl n1 n8 hmi hmL hsi hsg hbm hlog law hy0 c1 (fun h' e' => ?_) 0 (by omega) (by omega) h e
    ((try (conv => cbv)); repeat (refine brk_ok hA ?_; (try (conv => cbv))))
    rw [add64 hA (by omega) (by omega)]
    exact ih (by omega) h' e'
  · exact h1 h _ _ e

theorem sinks_ok {h : AHeap} (hlow : h.low ≤ h.next) {a : Option Addr} {m k : Nat} {img : Grid} (hg : Img h a m img) (hm : (m : Int) ≤ 9223372036854775807) {ab : Option Addr} {mb kb : Nat} {bm : Grid} (hb : Img h ab mb bm) (hmb : (mb : Int) ≤ 9223372036854775807) (c : Cln) {Q : Value → AHeap → Prop}
    (hQ : ∀ h', Ext h h' → Q (.bool true) h') : call 5 [.slice a m k, .slice ab mb kb, .agg c.cells.toArray] h Q := by
  obtain ⟨num, den, floor, steps⟩ := c
  have hgl := hg.len
  have hbl := hb.len
  have bt : bnot true = false := by rw [e_bnot hA]; rfl
  have bf : bnot false = true := by rw [e_bnot hA]; rfl
  refine hA.bodyR Try.func5 r5_ok (show prims _ _ _ = none from rfl) hlow ?_; (try (conv => cbv)); repeat (refine brk_ok hA ?_; (try (conv => cbv)))
  refine alive_ok hA ⟨_, rfl, ?_⟩
  ((try (conv => cbv)); repeat (refine brk_ok hA ?_; (try (conv => cbv))))
  refine great_ok2 hA hlow hg hm (fun r hr => ⟨_, rfl, ?_⟩)
  ((try (conv => cbv)); repeat (refine brk_ok hA ?_; (try (conv => cbv))))
  cases r with
  | true =>
    ((try (conv => cbv)); repeat (refine brk_ok hA ?_; (try (conv => cbv))))
    exact hQ h (.refl _)
  | false =>
  ((try (conv => cbv)); repeat (refine brk_ok hA ?_; (try (conv => cbv))))
  refine great_ok2 hA hlow hb hmb (fun r2 hr2 => ⟨_, rfl, ?_⟩)
  ((try (conv => cbv)); repeat (refine brk_ok hA ?_; (try (conv => cbv))))
  cases r2 with
  | true =>
    ((try (conv => cbv)); repeat (refine brk_ok hA ?_; (try (conv => cbv))))
    exact hQ h (.refl _)
  | false =>
  ((try (conv => cbv)); repeat (refine brk_ok hA ?_; (try (conv => cbv))))
  refine rchk_ok hA hlow hg hb (c := ⟨num, den, floor, steps⟩) (fun e he => ⟨_, rfl, ?_⟩)
  ((try (conv => cbv)); repeat (refine brk_ok hA ?_; (try (conv => cbv))))
  refine br (e ≠ 0) (by rw [e_neq hA]) (fun c1 => ?_) (fun c1 => ?_) <;> (try (conv => cbv)) <;> repeat (refine brk_ok hA ?_; (try (conv => cbv)))
  · exact hQ h (.refl _)
  have he0 : e = 0 := by omega
  subst he0
  obtain ⟨hi, hbm, hcl⟩ := he.ok
  have hi1 := hi.1
  have hi2 := hi.2.1
  have hsq := hi.2.2
  have hb1 := hbm.1.1
  rw [bt]
  ((try (conv => cbv)); repeat (refine brk_ok hA ?_; (try (conv => cbv))))
  refine pos_outer hA hb (by omega) (by have := squareP_shp hbm.1; rw [← hb1, hbl] at this; exact this) (fun hpos => ?_) (fun e kn K => ?_) 0 (by omega) (by omega) (fun y' x h3 h4 => by omega)
  · ((try (conv => cbv)); repeat (refine brk_ok hA ?_; (try (conv => cbv))))
    refine clean_is hA hlow hg hb (c := ⟨num, den, floor, steps⟩) (.inl rfl) (fun a2 m2 c2 al2 kl2 cl2 e2 h2 x2 p2 => ⟨_, _, _, _, _, _, _, rfl, ?_⟩)
    ((try (conv => cbv)); repeat (refine brk_ok hA ?_; (try (conv => cbv))))
    rcases p2.two he with ⟨rfl, _⟩ | ⟨rfl, g, l, hr, hi', hl'⟩
    · refine br (True) (by rw [e_neq hA]; rfl) (fun _ => ?_) (fun q => absurd trivial q) <;> (try (conv => cbv)) <;> repeat (refine brk_ok hA ?_; (try (conv => cbv)))
      have : cmp .eql 16 16 = true := by rw [e_eql hA]; rfl
      rw [this]
      exact hQ h2 x2
    refine br (False) (by rw [e_neq hA]; rfl) (fun q => q.elim) (fun _ => ?_) <;> (try (conv => cbv)) <;> repeat (refine brk_ok hA ?_; (try (conv => cbv)))
    obtain ⟨s1, s2, s3⟩ := Runs.facts hbm hcl hi1 hr (square_more hsq (by omega)) _ _ rfl
    have c7 := hcl.2.2.2.2.2.2
    have hlog : logP img.length l := logP_of (by simp only [] at c7 s2; omega) (fun p hp => (s3 p hp).1)
    have hgl' := hi'.len
    have hs1 := s1.1
    have himg : imgP g 1000000000 := ⟨by omega, by omega, by rw [hs1]; exact s1⟩
    refine rimg_ok hA (x2.lowOK hlow) hi' (by omega) (by omega) (fun r3 hr3 => ⟨_, rfl, ?_⟩)
    obtain rfl : r3 = true := hr3.2 himg
    ((try (conv => cbv)); repeat (refine brk_ok hA ?_; (try (conv => cbv))))
    rw [bt]
    ((try (conv => cbv)); repeat (refine brk_ok hA ?_; (try (conv => cbv))))
    refine br ((m2 : Int) ≠ m) (by rw [e_neq hA, e_ofNat hA, e_ofNat hA]) (fun c3 => by omega) (fun c3 => ?_) <;> (try (conv => cbv)) <;> repeat (refine brk_ok hA ?_; (try (conv => cbv)))
    have hmo : ofNat m = (img.length : Int) := by rw [e_ofNat hA]; omega
    have hll := hl'.len
    obtain ⟨n, hn⟩ : ∃ n : Int, n = img.length := ⟨_, rfl⟩
    rw [← hn] at hlog s1 hbm hsq hmo hs1 hi1 hi2 hr
    rw [hmo]
    simp only [] at c7 s2
    refine rlog_ok hA (x2.lowOK hlow) hl' (by omega) (n := n) (fun r4 hr4 => ⟨_, rfl, ?_⟩)
    obtain rfl : r4 = true := hr4.2 hlog
    ((try (conv => cbv)); repeat (refine brk_ok hA ?_; (try (conv => cbv))))
    rw [bt]
    ((try (conv => cbv)); repeat (refine brk_ok hA ?_; (try (conv => cbv))))
    rw [hmo]
    refine sink_outer hA (hg.ext x2) hi' (hb.ext x2) hl' (by omega) hi1 hi2 (by omega) (by omega) (squareP_shp hsq) (squareP_shp s1) hbm hlog (fun y x y0 y1 x0 x1 => Runs.sinks hbm hcl hi1 (fun y x q1 q2 q3 q4 => hpos y x q1 (by omega) q3 (by omega)) (square_more hsq (by omega)) hr y0 y1 x0 x1) (fun h' kn K e' => ?_) 0 (by omega) (by omega) h2 (.refl _)
    ((try (conv => cbv)); repeat (refine brk_ok hA ?_; (try (conv => cbv))))
    exact hQ h' (x2.trans e')
  · ((try (conv => cbv)); repeat (refine brk_ok hA ?_; (try (conv => cbv))))
    exact hQ h (.refl _)

end Go.Proofs.Ytogofeppflindaa
