/-
  A COMPONENT IS SUBTRACTED (clean.subtract, fringeref40.subtract).
-/
import Derived.Test.YtogofeppflindaaCMem
namespace Go.Proofs.Ytogofeppflindaa
open Go.Sim
set_option linter.unusedVariables false
set_option maxRecDepth 100000

structure Comp where
  x : Int
  y : Int
  f : Int
def Comp.cells (p : Comp) : List Value := [.int .i64 p.x, .int .i64 p.y, .int .i64 p.f]

/-- What is left of a cell. -/
def subC (g bm : Grid) (n : Int) (p : Comp) (v u : Int) : Int := cell g v u - p.f * cell bm (v - p.y + n - 1) (u - p.x + n - 1)
def subG (g bm : Grid) (n : Int) (p : Comp) : Grid := mkG n (subC g bm n p)

/-- Cells before (v, u) are done. -/
abbrev before (v u y x : Int) : Prop := y < v ∨ (y = v ∧ x < u)

def partG (g bm : Grid) (n : Int) (p : Comp) (v u : Int) : Grid := mkG n fun y x => if before v u y x then subC g bm n p y x else cell g y x

theorem part_first {g bm : Grid} {n : Int} {p : Comp} (h : shp g n) : partG g bm n p 0 0 = g := by
  have hn : 0 ≤ n := by have := h.1; omega
  refine shp_ext (mkG_shp hn _) h (fun y x hy0 hy1 hx0 hx1 => ?_)
  unfold partG
  rw [mkG_cell _ hy0 hy1 hx0 hx1, if_neg (by unfold before; omega)]
theorem part_line {g bm : Grid} {n : Int} {p : Comp} (hn : 0 ≤ n) {v : Int} : partG g bm n p v n = partG g bm n p (v + 1) 0 := by
  refine shp_ext (n := n) (mkG_shp hn _) (mkG_shp hn _) (fun y x hy0 hy1 hx0 hx1 => ?_)
  unfold partG
  rw [mkG_cell _ hy0 hy1 hx0 hx1, mkG_cell _ hy0 hy1 hx0 hx1]
  by_cases e : before v n y x
  · rw [if_pos e, if_pos (by unfold before at *; omega)]
  · rw [if_neg e, if_neg (by unfold before at *; omega)]
theorem part_last {g bm : Grid} {n : Int} {p : Comp} (hn : 0 ≤ n) : partG g bm n p n 0 = subG g bm n p := by
  refine shp_ext (n := n) (mkG_shp hn _) (mkG_shp hn _) (fun y x hy0 hy1 hx0 hx1 => ?_)
  unfold partG subG
  rw [mkG_cell _ hy0 hy1 hx0 hx1, mkG_cell _ hy0 hy1 hx0 hx1, if_pos (by unfold before; omega)]
theorem part_set {g bm : Grid} {n : Int} {p : Comp} (hn : 0 ≤ n) {v u : Int} (hv0 : 0 ≤ v) (hv1 : v < n) (hu0 : 0 ≤ u) (hu1 : u < n) : setC (partG g bm n p v u) v u (subC g bm n p v u) = partG g bm n p v (u + 1) := by
  have hs : shp (partG g bm n p v u) n := mkG_shp hn _
  refine shp_ext (n := n) (setC_shp hs hv0 hv1) (mkG_shp hn _) (fun y x hy0 hy1 hx0 hx1 => ?_)
  rw [cell_setC hs hv0 hv1 hu0 hu1 hy0 hy1 hx0]
  unfold partG
  rw [mkG_cell _ hy0 hy1 hx0 hx1, mkG_cell _ hy0 hy1 hx0 hx1]
  by_cases e : y = v ∧ x = u
  · rw [if_pos e, if_pos (by unfold before; omega), e.1, e.2]
  · rw [if_neg e]
    by_cases e2 : before v u y x
    · rw [if_pos e2, if_pos (by unfold before at *; omega)]
    · rw [if_neg e2, if_neg (by unfold before at *; omega)]
theorem part_cell {g bm : Grid} {n : Int} {p : Comp} {v u : Int} (hv0 : 0 ≤ v) (hv1 : v < n) (hu0 : 0 ≤ u) (hu1 : u < n) : cell (partG g bm n p v u) v u = cell g v u := by
  unfold partG
  rw [mkG_cell _ hv0 hv1 hu0 hu1, if_neg (by unfold before; omega)]
theorem part_shp {g bm : Grid} {n : Int} {p : Comp} (hn : 0 ≤ n) (v u : Int) : shp (partG g bm n p v u) n := mkG_shp hn _

/-- What is asked of image, beam and component. -/
structure SubOK (g bm : Grid) (n : Int) (p : Comp) : Prop where
  n1 : 1 ≤ n
  n8 : n ≤ 8
  gs : shp g n
  gb : ∀ y x : Int, 0 ≤ y → y < n → 0 ≤ x → x < n → within 1000000000000000 (cell g y x)
  bs : squareP bm (2 * n - 1) 1000
  x0 : 0 ≤ p.x
  x1 : p.x < n
  y0 : 0 ≤ p.y
  y1 : p.y < n
  f : within 1000000000 p.f

theorem prod_small {f b : Int} (hf : within 1000000000 f) (hb : within 1000 b) : within 1000000000000 (f * b) := by
  unfold within at *
  obtain ⟨f1, f2⟩ := hf
  obtain ⟨b1, b2⟩ := hb
  have h : (f * b).natAbs ≤ 1000000000 * 1000 := by
    rw [Int.natAbs_mul]
    exact Nat.mul_le_mul (by omega) (by omega)
  omega

theorem SubOK.bcell {g bm : Grid} {n : Int} {p : Comp} (k : SubOK g bm n p) {v u : Int} (hv0 : 0 ≤ v) (hv1 : v < n) (hu0 : 0 ≤ u) (hu1 : u < n) : within 1000 (cell bm (v - p.y + n - 1) (u - p.x + n - 1)) := by
  have := k.x0; have := k.x1; have := k.y0; have := k.y1
  exact (k.bs.2 (v - p.y + n - 1) (by omega) (by omega)).2 (u - p.x + n - 1) (by omega) (by omega)

/-- All but the rows of an image is as it was. -/
def Kept (bs : List (Nat × Nat)) (h h' : AHeap) : Prop := h.next ≤ h'.next ∧ ∀ b, b < h.next → (∀ p ∈ bs, p.1 ≠ b) → h'.m.get b = h.m.get b

theorem Kept.refl (bs : List (Nat × Nat)) (h : AHeap) : Kept bs h h := ⟨Nat.le_refl _, fun _ _ _ => rfl⟩
theorem Kept.ext {bs : List (Nat × Nat)} {h0 h h' : AHeap} (k : Kept bs h0 h) (e : Ext h h') : Kept bs h0 h' :=
  ⟨Nat.le_trans k.1 e.next, fun b hb hp => (e.get b (Nat.lt_of_lt_of_le hb k.1)).trans (k.2 b hb hp)⟩
theorem Kept.wrote {bs : List (Nat × Nat)} {h0 h h' : AHeap} {b c : Nat} (k : Kept bs h0 h) (w : Wrote h h' b) {i : Nat} (hb : bs[i]? = some (b, c)) : Kept bs h0 h' :=
  ⟨by have := w.next; have := k.1; omega, fun b' hb' hp => (w.get b' (fun e => hp (b, c) (List.mem_of_getElem? hb) e.symm)).trans (k.2 b' hb' hp)⟩

variable {call : FuncId → List Value → AHeap → (Value → AHeap → Prop) → Prop}
  {head : FuncId → Nat → Nat → SS → (Exit → SS → Prop) → Prop}
  {arith : BinOp → IntKind → Int → Int → Int}
  {cmp : BinOp → Int → Int → Bool}
  {scmp : BinOp → ByteArray → ByteArray → Bool}
  {bnot : Bool → Bool}
  {bsame : Bool → Bool → Bool}
  {conv : IntKind → Int → Int}
  {neg : IntKind → Int → Int}
  {imax : Int → Int → Int}
  {imin : Int → Int → Int}
  {ofNat : Nat → Int}
  {slen : ByteArray → Int}
  {place : Nat → Int → Nat → Nat}
  {inR : Int → Nat → Prop}
  {nz : Int → Prop}
  {geZ : Int → Prop}
  {rd : AHeap → Nat → Nat → Nat → List Value → Prop}
  {wr : AHeap → Nat → Nat → List Value → AHeap → Prop}
  {push : AHeap → Nat → List Value → AHeap}
  {next : AHeap → Nat}
  {mkOK : Int → Int → Prop}
  {nat : Int → Nat}
  {zeros : List Value → Int → List Value}
  {sadd : ByteArray → ByteArray → (ByteArray → Prop) → Prop}
  {eqAgg : TypeId → Array Value → Array Value → (Bool → Prop) → Prop}
  {cut : Nat → Int → Prop}
  {slc : TypeId → Value → Option Value → Option Value → Option Value → (Option Addr → Nat → Nat → Prop) → Prop}
  {sslc : TypeId → ByteArray → Option Value → Option Value → (ByteArray → Prop) → Prop}
  {strAt : ByteArray → Int → (Int → Prop) → Prop}
  {part : TypeId → Array Value → Nat → Value → Prop}
  {app : List TypeId → List Value → AHeap → (Option Addr → Nat → Nat → AHeap → Prop) → Prop}
  {cpy : List TypeId → List Value → AHeap → (Int → AHeap → Prop) → Prop}
  {putAt : AHeap → Nat → Nat → List Value → AHeap}
  {fresh : AHeap → AHeap}
  {lowered : AHeap → AHeap → AHeap}
  {bump : AHeap → Nat → AHeap}
  {wrote : AHeap → AHeap → Bool}
  {addN : Nat → Nat → Nat}
  {lt : Nat → Nat → Prop}
  {ne : Nat → Nat → Prop}
  {fpAll : Bool → Bool → Bool → Nat → Nat → Prop}
  {brk : (Unit → Prop) → Prop}
  {yn : Nat → Nat}
  {rng : FuncId → Nat → SS → (Exit → SS → Prop) → Prop}
  {mget : TypeId → Value → Value → AHeap → Value → Bool → Prop}
  {mput : TypeId → Value → Value → Value → AHeap → AHeap → Prop}
  {mnew : AHeap → AHeap}
  {bytes : TypeId → TypeId → Option Addr → Nat → AHeap → ByteArray → Prop}
  {clr : List TypeId → List Value → AHeap → AHeap → Prop}
  (hA : AOK progU hint prims ⟨call, head, arith, cmp, scmp, bnot, bsame, conv, neg, imax, imin, ofNat, slen, place, inR, nz, geZ, rd, wr, push, next, mkOK, nat, zeros, sadd, eqAgg, cut, slc, sslc, strAt, part, app, cpy, putAt, fresh, lowered, bump, wrote, addN, lt, ne, fpAll, brk, yn, rng, mget, mput, mnew, bytes, clr⟩)
include hA

theorem rsub_inner {h0 hs : AHeap} (hlow0 : h0.low ≤ h0.next) {ab : Option Addr} {mb cb : Nat} {bm : Grid} (hb : Img h0 ab mb bm) {lo : Nat} (hlo : h0.next ≤ lo) {a : Option Addr} {m c : Nat} {bs : List (Nat × Nat)} {g : Grid} {n : Int} (hmn : (m : Int) = n) {p : Comp} (k : SubOK g bm n p) {v : Int} (hv0 : 0 ≤ v) (hv1 : v < n) {Q : Exit → SS → Prop}
    (hQ : ∀ h', Ext h0 h' → Kept bs hs h' → OImg h' lo a m bs (partG g bm n p v n) → Q (.exit 2) ⟨[(0, .slice a m c), (1, .slice ab mb cb), (5, .pointer (some ⟨0, 0, some 0⟩)), (6, .int .i64 n), (7, .int .i64 v)], 1, [(0, p.cells)], h'⟩) :
    ∀ u : Int, 0 ≤ u → u ≤ m → ∀ h, Ext h0 h → Kept bs hs h → OImg h lo a m bs (partG g bm n p v u) → head 34 6 1 ⟨[(0, .slice a m c), (1, .slice ab mb cb), (5, .pointer (some ⟨0, 0, some 0⟩)), (6, .int .i64 n), (7, .int .i64 v), (8, .int .i64 u)], 1, [(0, p.cells)], h⟩ Q := by
  have kn1 := k.n1
  have kn8 := k.n8
  have kx0 := k.x0; have kx1 := k.x1; have ky0 := k.y0; have ky1 := k.y1
  have hbl := hb.len
  have hbs := k.bs.1
  refine countUp (fun u hu0 hum ih h e kp ho => ?_)
  refine hA.roundR Try.func34 r34_ok ?_; (try (conv => cbv)); repeat (refine brk_ok hA ?_; (try (conv => cbv)))
  refine br (u < n) (by rw [e_lss hA]) (fun c1 => ?_) (fun c1 => ?_) <;> (try (conv => cbv)) <;> repeat (refine brk_ok hA ?_; (try (conv => cbv)))
  · obtain ⟨h1, hh1⟩ : ∃ x, x = bump h 32 := ⟨_, rfl⟩
    have e1 : Ext h0 h1 := by rw [hh1, e_bump hA]; exact e.trans (.bump _ _)
    have kp1 : Kept bs hs h1 := by rw [hh1, e_bump hA]; exact kp.ext (.bump _ _)
    have ho1 : OImg h1 lo a m bs (partG g bm n p v u) := by rw [hh1, e_bump hA]; exact ho.ext (.bump _ _)
    rw [← hh1]
    obtain ⟨b, o, rb, rn, rc, rfl, hbn, hrd, hrn, hbi, hown, hrb, hlorb, hne⟩ := ho1.at hv0 (by omega)
    refine ⟨b, o, rfl, in_ok hA hv0 (by omega), ?_⟩
    ((try (conv => cbv)); repeat (refine brk_ok hA ?_; (try (conv => cbv))))
    refine ⟨some ⟨rb, 0, none⟩, rn, rc, rd_ok hA hrd, ?_⟩
    have hps : shp (partG g bm n p v u) n := part_shp (by omega) v u
    have hrl : ((rowAt (partG g bm n p v u) v).length : Int) = n := hps.2 v hv0 hv1
    ((try (conv => cbv)); repeat (refine brk_ok hA ?_; (try (conv => cbv))))
    refine ⟨rb, 0, rfl, in_ok hA hu0 (by omega), ?_⟩
    ((try (conv => cbv)); repeat (refine brk_ok hA ?_; (try (conv => cbv))))
    obtain ⟨x0, hx0⟩ : ∃ x, x = cell g v u := ⟨_, rfl⟩
    have hx : h1.readG ⟨rb, 0 + u.toNat * 1, none⟩ 1 = some [.int .i64 x0] := by
      have := hown.getInt (i := u.toNat) (by omega)
      rw [Nat.zero_add, Nat.mul_one, this, hx0, ← part_cell (g := g) (bm := bm) (p := p) hv0 hv1 hu0 c1]
      rfl
    refine ⟨x0, rd_ok hA hx, ?_⟩
    ((try (conv => cbv)); repeat (refine brk_ok hA ?_; (try (conv => cbv))))
    have a1 : arith .sub .i64 v p.2 = v - p.y := sub64 hA (by show _ ≤ v - p.y; omega) (by show v - p.y < _; omega)
    have a2 : arith .add .i64 (v - p.y) n = v - p.y + n := add64 hA (by omega) (by omega)
    have a3 : arith .sub .i64 (v - p.y + n) 1 = v - p.y + n - 1 := sub64 hA (by omega) (by omega)
    rw [a1, a2, a3]
    obtain ⟨b2, o2, ra2, rn2, rc2, rfl, hb2n, hrd2, hrow2, hrl2⟩ := (hb.ext e1).row (i := v - p.y + n - 1) (by omega) (by omega)
    refine ⟨b2, o2, rfl, in_ok hA (by omega) (by omega), ?_⟩
    ((try (conv => cbv)); repeat (refine brk_ok hA ?_; (try (conv => cbv))))
    refine ⟨ra2, rn2, rc2, rd_ok hA hrd2, ?_⟩
    ((try (conv => cbv)); repeat (refine brk_ok hA ?_; (try (conv => cbv))))
    have b1 : arith .sub .i64 u p.1 = u - p.x := sub64 hA (by show _ ≤ u - p.x; omega) (by show u - p.x < _; omega)
    have b2' : arith .add .i64 (u - p.x) n = u - p.x + n := add64 hA (by omega) (by omega)
    have b3 : arith .sub .i64 (u - p.x + n) 1 = u - p.x + n - 1 := sub64 hA (by omega) (by omega)
    rw [b1, b2', b3]
    have hl2 := (k.bs.2 (v - p.y + n - 1) (by omega) (by omega)).1
    obtain ⟨b4, o4, x4, rfl, hb4n, hx4, hrd4⟩ := hrow2.at (i := u - p.x + n - 1) (by omega) (by omega)
    refine ⟨b4, o4, rfl, in_ok hA (by omega) (by omega), ?_⟩
    ((try (conv => cbv)); repeat (refine brk_ok hA ?_; (try (conv => cbv))))
    refine ⟨x4, rd_ok hA hrd4, ?_⟩
    ((try (conv => cbv)); repeat (refine brk_ok hA ?_; (try (conv => cbv))))
    have hbc := k.bcell hv0 hv1 hu0 c1
    have hx4' : x4 = cell bm (v - p.y + n - 1) (u - p.x + n - 1) := hx4
    rw [← hx4'] at hbc
    have hpr := prod_small k.f hbc
    have hgb := k.gb v u hv0 hv1 hu0 c1
    rw [← hx0] at hgb
    unfold within at hpr hgb
    have c1' : arith .mul .i64 p.3 x4 = p.f * x4 := mul64 hA (by show _ ≤ p.f * x4; omega) (by show p.f * x4 < _; omega)
    have c2' : arith .sub .i64 x0 (p.f * x4) = x0 - p.f * x4 := sub64 hA (by omega) (by omega)
    obtain ⟨d, hd⟩ : ∃ d, d = x0 - p.f * x4 := ⟨_, rfl⟩
    rw [c1', c2', ← hd]
    refine ⟨rb, 0, rfl, in_ok hA hu0 (by omega), ?_⟩
    ((try (conv => cbv)); repeat (refine brk_ok hA ?_; (try (conv => cbv))))
    have hdc : d = subC g bm n p v u := by rw [hd, hx0, hx4']; rfl
    obtain ⟨h2, w1, w2, w3⟩ := ho1.write (u := u) hv0 (by omega) hu0 (by omega) d hbi
    refine ⟨h2, wr_ok hA w1, ?_⟩
    rw [hdc, part_set (by omega) hv0 hv1 hu0 c1] at w2
    ((try (conv => cbv)); repeat (refine brk_ok hA ?_; (try (conv => cbv))))
    rw [add64 hA (by omega) (by omega)]
    exact ih (by omega) h2 (w3.ext e1 (by omega)) (kp1.wrote w3 hbi) w2
  · have : u = n := by omega
    subst this
    exact hQ h e kp ho

theorem rsub_outer {h0 hs : AHeap} (hlow0 : h0.low ≤ h0.next) {ab : Option Addr} {mb cb : Nat} {bm : Grid} (hb : Img h0 ab mb bm) {lo : Nat} (hlo : h0.next ≤ lo) {a : Option Addr} {m c : Nat} {bs : List (Nat × Nat)} {g : Grid} {n : Int} (hmn : (m : Int) = n) {p : Comp} (k : SubOK g bm n p) {Q : Exit → SS → Prop}
    (hQ : ∀ e kn K h', Ext h0 h' → Kept bs hs h' → OImg h' lo a m bs (subG g bm n p) → Q (.exit 0) ⟨e, kn, K, h'⟩) :
    ∀ v : Int, 0 ≤ v → v ≤ m → ∀ h, Ext h0 h → Kept bs hs h → OImg h lo a m bs (partG g bm n p v 0) → head 34 3 1 ⟨[(0, .slice a m c), (1, .slice ab mb cb), (5, .pointer (some ⟨0, 0, some 0⟩)), (6, .int .i64 n), (7, .int .i64 v)], 1, [(0, p.cells)], h⟩ Q := by
  have kn1 := k.n1
  have kn8 := k.n8
  refine countUp (fun v hv0 hvm ih h e kp ho => ?_)
  refine hA.roundR Try.func34 r34_ok ?_; (try (conv => cbv)); repeat (refine brk_ok hA ?_; (try (conv => cbv)))
  refine br (v < n) (by rw [e_lss hA]) (fun c1 => ?_) (fun c1 => ?_) <;> (try (conv => cbv)) <;> repeat (refine brk_ok hA ?_; (try (conv => cbv)))
  · refine rsub_inner hA hlow0 hb hlo hmn k hv0 c1 (fun h' e' kp' ho' => ?_) 0 (by omega) (by omega) h e kp ho
    ((try (conv => cbv)); repeat (refine brk_ok hA ?_; (try (conv => cbv))))
    rw [add64 hA (by omega) (by omega)]
    rw [part_line (by omega)] at ho'
    exact ih (by omega) h' e' kp' ho'
  · have : v = n := by omega
    subst this
    rw [part_last (by omega)] at ho
    exact hQ _ _ _ h e kp ho

theorem rsub_ok2 {h0 h : AHeap} (hlow0 : h0.low ≤ h0.next) (e0 : Ext h0 h) {ab : Option Addr} {mb cb : Nat} {bm : Grid} (hb : Img h0 ab mb bm) {lo : Nat} (hlo : h0.next ≤ lo) {a : Option Addr} {m c : Nat} {bs : List (Nat × Nat)} {g : Grid} {n : Int} (hmn : (m : Int) = n) {p : Comp} (k : SubOK g bm n p) (ho : OImg h lo a m bs g) {Q : Value → AHeap → Prop}
    (hQ : ∀ h', Ext h0 h' → Kept bs h h' → OImg h' lo a m bs (subG g bm n p) → Q undef h') : call 34 [.slice a m c, .slice ab mb cb, .agg p.cells.toArray] h Q := by
  have hlow := e0.lowOK hlow0
  refine hA.bodyR Try.func34 r34_ok (show prims _ _ _ = none from rfl) hlow ?_; (try (conv => cbv)); repeat (refine brk_ok hA ?_; (try (conv => cbv)))
  rw [← part_first k.gs (bm := bm) (p := p)] at ho
  have hmo : ofNat m = n := by rw [e_ofNat hA]; exact hmn
  rw [hmo]
  refine rsub_outer hA hlow0 hb hlo hmn k (fun e kn K h' e' kp' ho' => ?_) 0 (by omega) (by omega) h e0 (Kept.refl bs h) ho
  ((try (conv => cbv)); repeat (refine brk_ok hA ?_; (try (conv => cbv))))
  exact hQ h' e' kp' ho'

theorem rsub_ok {h0 h : AHeap} (hlow0 : h0.low ≤ h0.next) (e0 : Ext h0 h) {ab : Option Addr} {mb cb : Nat} {bm : Grid} (hb : Img h0 ab mb bm) {lo : Nat} (hlo : h0.next ≤ lo) {a : Option Addr} {m c : Nat} {bs : List (Nat × Nat)} {g : Grid} {n : Int} (hmn : (m : Int) = n) {p : Comp} (k : SubOK g bm n p) (ho : OImg h lo a m bs g) {Q : Value → AHeap → Prop}
    (hQ : ∀ h', Ext h0 h' → OImg h' lo a m bs (subG g bm n p) → Q undef h') : call 34 [.slice a m c, .slice ab mb cb, .agg p.cells.toArray] h Q :=
  rsub_ok2 hA hlow0 e0 hb hlo hmn k ho (fun h' e' _ ho' => hQ h' e' ho')

end Go.Proofs.Ytogofeppflindaa
