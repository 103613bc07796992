/-
  A COMPONENT IS SUBTRACTED, AND THE RANGE IS LOOKED AT (clean.subtract).
-/
import Derived.Test.YtogofeppflindaaCSub
namespace Go.Proofs.Ytogofeppflindaa
open Go.Sim
set_option linter.unusedVariables false
set_option maxRecDepth 100000

/-- All that is left is in its range. -/
def leftOK (g bm : Grid) (n : Int) (p : Comp) : Prop := ∀ y x : Int, 0 ≤ y → y < n → 0 ≤ x → x < n → within 1000000000 (subC g bm n p y x)

variable {call : FuncId → List Value → AHeap → (Value → AHeap → Prop) → Prop}
  {head : FuncId → Nat → Nat → SS → (Exit → SS → Prop) → Prop}
  {arith : BinOp → IntKind → Int → Int → Int}
  {cmp : BinOp → Int → Int → Bool}
  {scmp : BinOp → ByteArray → ByteArray → Bool}
  {bnot : Bool → Bool}
  {bsame : Bool → Bool → Bool}
  {conv : IntKind → Int → Int}
  {neg : IntKind → Int → Int}
  {imax : Int → Int → Int}
  {imin : Int → Int → Int}
  {ofNat : Nat → Int}
  {slen : ByteArray → Int}
  {place : Nat → Int → Nat → Nat}
  {inR : Int → Nat → Prop}
  {nz : Int → Prop}
  {geZ : Int → Prop}
  {rd : AHeap → Nat → Nat → Nat → List Value → Prop}
  {wr : AHeap → Nat → Nat → List Value → AHeap → Prop}
  {push : AHeap → Nat → List Value → AHeap}
  {next : AHeap → Nat}
  {mkOK : Int → Int → Prop}
  {nat : Int → Nat}
  {zeros : List Value → Int → List Value}
  {sadd : ByteArray → ByteArray → (ByteArray → Prop) → Prop}
  {eqAgg : TypeId → Array Value → Array Value → (Bool → Prop) → Prop}
  {cut : Nat → Int → Prop}
  {slc : TypeId → Value → Option Value → Option Value → Option Value → (Option Addr → Nat → Nat → Prop) → Prop}
  {sslc : TypeId → ByteArray → Option Value → Option Value → (ByteArray → Prop) → Prop}
  {strAt : ByteArray → Int → (Int → Prop) → Prop}
  {part : TypeId → Array Value → Nat → Value → Prop}
  {app : List TypeId → List Value → AHeap → (Option Addr → Nat → Nat → AHeap → Prop) → Prop}
  {cpy : List TypeId → List Value → AHeap → (Int → AHeap → Prop) → Prop}
  {putAt : AHeap → Nat → Nat → List Value → AHeap}
  {fresh : AHeap → AHeap}
  {lowered : AHeap → AHeap → AHeap}
  {bump : AHeap → Nat → AHeap}
  {wrote : AHeap → AHeap → Bool}
  {addN : Nat → Nat → Nat}
  {lt : Nat → Nat → Prop}
  {ne : Nat → Nat → Prop}
  {fpAll : Bool → Bool → Bool → Nat → Nat → Prop}
  {brk : (Unit → Prop) → Prop}
  {yn : Nat → Nat}
  {rng : FuncId → Nat → SS → (Exit → SS → Prop) → Prop}
  {mget : TypeId → Value → Value → AHeap → Value → Bool → Prop}
  {mput : TypeId → Value → Value → Value → AHeap → AHeap → Prop}
  {mnew : AHeap → AHeap}
  {bytes : TypeId → TypeId → Option Addr → Nat → AHeap → ByteArray → Prop}
  {clr : List TypeId → List Value → AHeap → AHeap → Prop}
  (hA : AOK progU hint prims ⟨call, head, arith, cmp, scmp, bnot, bsame, conv, neg, imax, imin, ofNat, slen, place, inR, nz, geZ, rd, wr, push, next, mkOK, nat, zeros, sadd, eqAgg, cut, slc, sslc, strAt, part, app, cpy, putAt, fresh, lowered, bump, wrote, addN, lt, ne, fpAll, brk, yn, rng, mget, mput, mnew, bytes, clr⟩)
include hA

theorem psub_inner {h0 hs : AHeap} (hlow0 : h0.low ≤ h0.next) {ab : Option Addr} {mb cb : Nat} {bm : Grid} (hb : Img h0 ab mb bm) {lo : Nat} (hlo : h0.next ≤ lo) {a : Option Addr} {m c : Nat} {bs : List (Nat × Nat)} {g : Grid} {n : Int} (hmn : (m : Int) = n) {p : Comp} (k : SubOK g bm n p) {v : Int} (hv0 : 0 ≤ v) (hv1 : v < n) {rb rn rc : Nat} (hbi : bs[v.toNat]? = some (rb, rc)) (hrn : (rn : Int) = n) {Q : Exit → SS → Prop}
    (hQ : ∀ h', Ext h0 h' → Kept bs hs h' → OImg h' lo a m bs (partG g bm n p v n) → (∀ y x : Int, 0 ≤ y → y < n → 0 ≤ x → x < n → before v n y x → within 1000000000 (subC g bm n p y x)) → Q (.exit 2) ⟨[(1, .slice ab mb cb), (5, .pointer (some ⟨0, 0, some 0⟩)), (7, .int .i64 n), (15, .slice a m c), (16, .int .i64 n), (17, .int .i64 v)], 1, [(0, p.cells)], h'⟩)
    (hbad : ∀ e kn K h', Ext h0 h' → Kept bs hs h' → ¬ leftOK g bm n p → Q .ret ⟨(6, .bool false) :: e, kn, K, h'⟩) :
    ∀ u : Int, 0 ≤ u → u ≤ m → ∀ h, Ext h0 h → Kept bs hs h → OImg h lo a m bs (partG g bm n p v u) → (∀ y x : Int, 0 ≤ y → y < n → 0 ≤ x → x < n → before v u y x → within 1000000000 (subC g bm n p y x)) →
      head 41 6 1 ⟨[(1, .slice ab mb cb), (5, .pointer (some ⟨0, 0, some 0⟩)), (7, .int .i64 n), (8, .int .i64 v), (9, .slice (some ⟨rb, 0, none⟩) rn rc), (15, .slice a m c), (16, .int .i64 n), (17, .int .i64 v), (23, .int .i64 n), (24, .int .i64 u)], 1, [(0, p.cells)], h⟩ Q := by
  have kn1 := k.n1
  have kn8 := k.n8
  have kx0 := k.x0; have kx1 := k.x1; have ky0 := k.y0; have ky1 := k.y1
  have hbl := hb.len
  have hbs := k.bs.1
  refine countUp (fun u hu0 hum ih h e kp ho hall => ?_)
  refine hA.roundR Try.func41 r41_ok ?_; (try (conv => cbv)); repeat (refine brk_ok hA ?_; (try (conv => cbv)))
  refine br (u < n) (by rw [e_lss hA]) (fun c1 => ?_) (fun c1 => ?_) <;> (try (conv => cbv)) <;> repeat (refine brk_ok hA ?_; (try (conv => cbv)))
  · obtain ⟨h1, hh1⟩ : ∃ x, x = bump h 20 := ⟨_, rfl⟩
    have e1 : Ext h0 h1 := by rw [hh1, e_bump hA]; exact e.trans (.bump _ _)
    have kp1 : Kept bs hs h1 := by rw [hh1, e_bump hA]; exact kp.ext (.bump _ _)
    have ho1 : OImg h1 lo a m bs (partG g bm n p v u) := by rw [hh1, e_bump hA]; exact ho.ext (.bump _ _)
    rw [← hh1]
    have a1 : arith .sub .i64 v p.2 = v - p.y := sub64 hA (by show _ ≤ v - p.y; omega) (by show v - p.y < _; omega)
    have a2 : arith .add .i64 (v - p.y) n = v - p.y + n := add64 hA (by omega) (by omega)
    have a3 : arith .sub .i64 (v - p.y + n) 1 = v - p.y + n - 1 := sub64 hA (by omega) (by omega)
    rw [a1, a2, a3]
    obtain ⟨b2, o2, ra2, rn2, rc2, rfl, hb2n, hrd2, hrow2, hrl2⟩ := (hb.ext e1).row (i := v - p.y + n - 1) (by omega) (by omega)
    refine ⟨b2, o2, rfl, in_ok hA (by omega) (by omega), ?_⟩
    ((try (conv => cbv)); repeat (refine brk_ok hA ?_; (try (conv => cbv))))
    refine ⟨ra2, rn2, rc2, rd_ok hA hrd2, ?_⟩
    ((try (conv => cbv)); repeat (refine brk_ok hA ?_; (try (conv => cbv))))
    have b1 : arith .sub .i64 u p.1 = u - p.x := sub64 hA (by show _ ≤ u - p.x; omega) (by show u - p.x < _; omega)
    have b2' : arith .add .i64 (u - p.x) n = u - p.x + n := add64 hA (by omega) (by omega)
    have b3 : arith .sub .i64 (u - p.x + n) 1 = u - p.x + n - 1 := sub64 hA (by omega) (by omega)
    rw [b1, b2', b3]
    have hl2 := (k.bs.2 (v - p.y + n - 1) (by omega) (by omega)).1
    obtain ⟨b4, o4, x4, rfl, hb4n, hx4, hrd4⟩ := hrow2.at (i := u - p.x + n - 1) (by omega) (by omega)
    refine ⟨b4, o4, rfl, in_ok hA (by omega) (by omega), ?_⟩
    ((try (conv => cbv)); repeat (refine brk_ok hA ?_; (try (conv => cbv))))
    refine ⟨x4, rd_ok hA hrd4, ?_⟩
    ((try (conv => cbv)); repeat (refine brk_ok hA ?_; (try (conv => cbv))))
    have hbc := k.bcell hv0 hv1 hu0 c1
    have hx4' : x4 = cell bm (v - p.y + n - 1) (u - p.x + n - 1) := hx4
    rw [← hx4'] at hbc
    have hpr := prod_small k.f hbc
    obtain ⟨h2, hh2⟩ : ∃ x, x = bump h1 10 := ⟨_, rfl⟩
    have e2 : Ext h0 h2 := by rw [hh2, e_bump hA]; exact e1.trans (.bump _ _)
    have kp2 : Kept bs hs h2 := by rw [hh2, e_bump hA]; exact kp1.ext (.bump _ _)
    have ho2 : OImg h2 lo a m bs (partG g bm n p v u) := by rw [hh2, e_bump hA]; exact ho1.ext (.bump _ _)
    rw [← hh2]
    have hps : shp (partG g bm n p v u) n := part_shp (by omega) v u
    have hrl : ((rowAt (partG g bm n p v u) v).length : Int) = n := hps.2 v hv0 hv1
    obtain ⟨q1, q2, q3⟩ := ho2.rows _ _ _ hbi (rowAt_eq hv0 (by have := hps.1; omega))
    refine ⟨rb, 0, rfl, in_ok hA hu0 (by omega), ?_⟩
    ((try (conv => cbv)); repeat (refine brk_ok hA ?_; (try (conv => cbv))))
    obtain ⟨x0, hx0⟩ : ∃ x, x = cell g v u := ⟨_, rfl⟩
    have hx : h2.readG ⟨rb, 0 + u.toNat * 1, none⟩ 1 = some [.int .i64 x0] := by
      have := q1.getInt (i := u.toNat) (by omega)
      rw [Nat.zero_add, Nat.mul_one, this, hx0, ← part_cell (g := g) (bm := bm) (p := p) hv0 hv1 hu0 c1]
      rfl
    refine ⟨x0, rd_ok hA hx, ?_⟩
    ((try (conv => cbv)); repeat (refine brk_ok hA ?_; (try (conv => cbv))))
    have hgb := k.gb v u hv0 hv1 hu0 c1
    rw [← hx0] at hgb
    unfold within at hpr hgb
    have c1' : arith .mul .i64 p.3 x4 = p.f * x4 := mul64 hA (by show _ ≤ p.f * x4; omega) (by show p.f * x4 < _; omega)
    have c2' : arith .sub .i64 x0 (p.f * x4) = x0 - p.f * x4 := sub64 hA (by omega) (by omega)
    obtain ⟨d, hd⟩ : ∃ d, d = x0 - p.f * x4 := ⟨_, rfl⟩
    rw [c1', c2', ← hd]
    have hdc : d = subC g bm n p v u := by rw [hd, hx0, hx4']; rfl
    refine inRange_ok hA (e2.lowOK hlow0) (fun r hr => ⟨_, rfl, ?_⟩)
    ((try (conv => cbv)); repeat (refine brk_ok hA ?_; (try (conv => cbv))))
    cases r with
    | false =>
      ((try (conv => cbv)); repeat (refine brk_ok hA ?_; (try (conv => cbv))))
      refine br (True) (by rw [e_bnot hA]; rfl) (fun _ => ?_) (fun q => absurd trivial q) <;> (try (conv => cbv)) <;> repeat (refine brk_ok hA ?_; (try (conv => cbv)))
      refine hbad _ _ _ h2 e2 kp2 (fun q => ?_)
      have := hr.2 (by rw [hdc]; exact q v u hv0 hv1 hu0 c1)
      cases this
    | true =>
      ((try (conv => cbv)); repeat (refine brk_ok hA ?_; (try (conv => cbv))))
      refine br (False) (by rw [e_bnot hA]; rfl) (fun q => q.elim) (fun _ => ?_) <;> (try (conv => cbv)) <;> repeat (refine brk_ok hA ?_; (try (conv => cbv)))
      refine ⟨rb, 0, rfl, in_ok hA hu0 (by omega), ?_⟩
      ((try (conv => cbv)); repeat (refine brk_ok hA ?_; (try (conv => cbv))))
      obtain ⟨h3, w1, w2, w3⟩ := ho2.write (u := u) hv0 (by omega) hu0 (by omega) d hbi
      refine ⟨h3, wr_ok hA w1, ?_⟩
      rw [hdc, part_set (by omega) hv0 hv1 hu0 c1] at w2
      ((try (conv => cbv)); repeat (refine brk_ok hA ?_; (try (conv => cbv))))
      rw [add64 hA (by omega) (by omega)]
      refine ih (by omega) h3 (w3.ext e2 (by omega)) (kp2.wrote w3 hbi) w2 (fun y x hy0 hy1 hx0' hx1 hbf => ?_)
      by_cases e9 : y = v ∧ x = u
      · rw [e9.1, e9.2, ← hdc]; exact hr.1 rfl
      · exact hall y x hy0 hy1 hx0' hx1 (by unfold before at *; omega)
  · have : u = n := by omega
    subst this
    exact hQ h e kp ho hall

theorem psub_outer {h0 hs : AHeap} (hlow0 : h0.low ≤ h0.next) {ab : Option Addr} {mb cb : Nat} {bm : Grid} (hb : Img h0 ab mb bm) {lo : Nat} (hlo : h0.next ≤ lo) {a : Option Addr} {m c : Nat} {bs : List (Nat × Nat)} {g : Grid} {n : Int} (hmn : (m : Int) = n) {p : Comp} (k : SubOK g bm n p) {Q : Exit → SS → Prop}
    (hQ : ∀ e kn K h', Ext h0 h' → Kept bs hs h' → OImg h' lo a m bs (subG g bm n p) → leftOK g bm n p → Q (.exit 0) ⟨e, kn, K, h'⟩)
    (hbad : ∀ e kn K h', Ext h0 h' → Kept bs hs h' → ¬ leftOK g bm n p → Q .ret ⟨(6, .bool false) :: e, kn, K, h'⟩) :
    ∀ v : Int, 0 ≤ v → v ≤ m → ∀ h, Ext h0 h → Kept bs hs h → OImg h lo a m bs (partG g bm n p v 0) → (∀ y x : Int, 0 ≤ y → y < n → 0 ≤ x → x < n → before v 0 y x → within 1000000000 (subC g bm n p y x)) → head 41 3 1 ⟨[(1, .slice ab mb cb), (5, .pointer (some ⟨0, 0, some 0⟩)), (7, .int .i64 n), (15, .slice a m c), (16, .int .i64 n), (17, .int .i64 v)], 1, [(0, p.cells)], h⟩ Q := by
  have kn1 := k.n1
  have kn8 := k.n8
  refine countUp (fun v hv0 hvm ih h e kp ho hall => ?_)
  refine hA.roundR Try.func41 r41_ok ?_; (try (conv => cbv)); repeat (refine brk_ok hA ?_; (try (conv => cbv)))
  refine br (v < n) (by rw [e_lss hA]) (fun c1 => ?_) (fun c1 => ?_) <;> (try (conv => cbv)) <;> repeat (refine brk_ok hA ?_; (try (conv => cbv)))
  · obtain ⟨b, o, rb, rn, rc, rfl, hbn, hrd, hrn, hbi, hown, hrb, hlorb, hne⟩ := ho.at hv0 (by omega)
    have hrl : ((rowAt (partG g bm n p v 0) v).length : Int) = n := (part_shp (by omega) v 0).2 v hv0 c1
    refine ⟨b, o, rfl, in_ok hA hv0 (by omega), ?_⟩
    ((try (conv => cbv)); repeat (refine brk_ok hA ?_; (try (conv => cbv))))
    refine ⟨some ⟨rb, 0, none⟩, rn, rc, rd_ok hA hrd, ?_⟩
    ((try (conv => cbv)); repeat (refine brk_ok hA ?_; (try (conv => cbv))))
    have hro : ofNat rn = n := by rw [e_ofNat hA]; omega
    rw [hro]
    refine psub_inner hA hlow0 hb hlo hmn k hv0 c1 hbi (by omega) (fun h' e' kp' ho' hall' => ?_) (fun e kn K h' e' kp' q => ?_) 0 (by omega) (by omega) h e kp ho hall
    · ((try (conv => cbv)); repeat (refine brk_ok hA ?_; (try (conv => cbv))))
      rw [add64 hA (by omega) (by omega)]
      rw [part_line (by omega)] at ho'
      exact ih (by omega) h' e' kp' ho' (fun y x h1 h2 h3 h4 h5 => hall' y x h1 h2 h3 h4 (by unfold before at *; omega))
    · exact hbad _ _ _ h' e' kp' q
  · have : v = n := by omega
    subst this
    rw [part_last (by omega)] at ho
    exact hQ _ _ _ h e kp ho (fun y x h1 h2 h3 h4 => hall y x h1 h2 h3 h4 (by unfold before; omega))

theorem psub_ok2 {h0 h : AHeap} (hlow0 : h0.low ≤ h0.next) (e0 : Ext h0 h) {ab : Option Addr} {mb cb : Nat} {bm : Grid} (hb : Img h0 ab mb bm) {lo : Nat} (hlo : h0.next ≤ lo) {a : Option Addr} {m c : Nat} {bs : List (Nat × Nat)} {g : Grid} {n : Int} (hmn : (m : Int) = n) {p : Comp} (k : SubOK g bm n p) (ho : OImg h lo a m bs g) {Q : Value → AHeap → Prop}
    (hok : ∀ h', Ext h0 h' → Kept bs h h' → OImg h' lo a m bs (subG g bm n p) → leftOK g bm n p → Q (.bool true) h') (hbad : ∀ h', Ext h0 h' → Kept bs h h' → ¬ leftOK g bm n p → Q (.bool false) h') : call 41 [.slice a m c, .slice ab mb cb, .agg p.cells.toArray] h Q := by
  have hlow := e0.lowOK hlow0
  refine hA.bodyR Try.func41 r41_ok (show prims _ _ _ = none from rfl) hlow ?_; (try (conv => cbv)); repeat (refine brk_ok hA ?_; (try (conv => cbv)))
  rw [← part_first k.gs (bm := bm) (p := p)] at ho
  have hmo : ofNat m = n := by rw [e_ofNat hA]; exact hmn
  rw [hmo]
  refine psub_outer hA hlow0 hb hlo hmn k (fun e kn K h' e' kp' ho' hl => ?_) (fun e kn K h' e' kp' q => ?_) 0 (by omega) (by omega) h e0 (Kept.refl bs h) ho (fun y x h1 h2 h3 h4 h5 => by unfold before at h5; omega)
  · ((try (conv => cbv)); repeat (refine brk_ok hA ?_; (try (conv => cbv))))
    exact hok h' e' kp' ho' hl
  · ((try (conv => cbv)); repeat (refine brk_ok hA ?_; (try (conv => cbv))))
    exact hbad h' e' kp' q

theorem psub_ok {h0 h : AHeap} (hlow0 : h0.low ≤ h0.next) (e0 : Ext h0 h) {ab : Option Addr} {mb cb : Nat} {bm : Grid} (hb : Img h0 ab mb bm) {lo : Nat} (hlo : h0.next ≤ lo) {a : Option Addr} {m c : Nat} {bs : List (Nat × Nat)} {g : Grid} {n : Int} (hmn : (m : Int) = n) {p : Comp} (k : SubOK g bm n p) (ho : OImg h lo a m bs g) {Q : Value → AHeap → Prop}
    (hok : ∀ h', Ext h0 h' → OImg h' lo a m bs (subG g bm n p) → leftOK g bm n p → Q (.bool true) h') (hbad : ∀ h', Ext h0 h' → ¬ leftOK g bm n p → Q (.bool false) h') : call 41 [.slice a m c, .slice ab mb cb, .agg p.cells.toArray] h Q :=
  psub_ok2 hA hlow0 e0 hb hlo hmn k ho (fun h' e' _ ho' hl => hok h' e' ho' hl) (fun h' e' _ q => hbad h' e' q)

end Go.Proofs.Ytogofeppflindaa
