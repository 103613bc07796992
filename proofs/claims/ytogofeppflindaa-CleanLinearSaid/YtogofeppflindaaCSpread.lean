/-
  Spread, of the reference.
-/
import Derived.Test.YtogofeppflindaaCModel2
namespace Go.Proofs.Ytogofeppflindaa
open Go.Sim
set_option linter.unusedVariables false
set_option maxRecDepth 100000

/-- What the cell (v, u) gives to the cell (y, x). -/
def term (g bm : Grid) (n y x v u : Int) : Int := cell g v u * cell bm (y - v + n - 1) (x - u + n - 1)
def rowS (g bm : Grid) (n y x v : Int) : Nat → Int
  | 0 => 0
  | u + 1 => rowS g bm n y x v u + term g bm n y x v u
def allS (g bm : Grid) (n y x : Int) : Nat → Int
  | 0 => 0
  | v + 1 => allS g bm n y x v + rowS g bm n y x v n.toNat
/-- The sum before the cell (v, u). -/
def accS (g bm : Grid) (n v u y x : Int) : Int := allS g bm n y x v.toNat + rowS g bm n y x v u.toNat

theorem acc_next {g bm : Grid} {n v u y x : Int} (u0 : 0 ≤ u) : accS g bm n v (u + 1) y x = accS g bm n v u y x + term g bm n y x v u := by
  unfold accS
  rw [toNat_succ u0]
  show allS g bm n y x v.toNat + (rowS g bm n y x v u.toNat + term g bm n y x v (u.toNat : Int)) = _
  rw [Int.toNat_of_nonneg u0]
  omega
theorem acc_line {g bm : Grid} {n v y x : Int} (v0 : 0 ≤ v) : accS g bm n v n y x = accS g bm n (v + 1) 0 y x := by
  unfold accS
  rw [toNat_succ v0]
  show _ = allS g bm n y x v.toNat + rowS g bm n y x (v.toNat : Int) n.toNat + 0
  rw [Int.toNat_of_nonneg v0]
  omega

/-- What is asked of image and beam. -/
structure SprOK (g bm : Grid) (n : Int) : Prop where
  n1 : 1 ≤ n
  n8 : n ≤ 8
  gs : squareP g n 1000000000
  bs : squareP bm (2 * n - 1) 1000

theorem SprOK.term {g bm : Grid} {n : Int} (k : SprOK g bm n) {y x v u : Int} (y0 : 0 ≤ y) (y1 : y < n) (x0 : 0 ≤ x) (x1 : x < n) (v0 : 0 ≤ v) (v1 : v < n) (u0 : 0 ≤ u) (u1 : u < n) : within 1000000000000 (term g bm n y x v u) := by
  have h1 := (squareP_iff.1 k.gs).2 v u v0 v1 u0 u1
  have h2 := (squareP_iff.1 k.bs).2 (y - v + n - 1) (x - u + n - 1) (by omega) (by omega) (by omega) (by omega)
  exact prod_small h1 h2
theorem SprOK.row {g bm : Grid} {n : Int} (k : SprOK g bm n) {y x v : Int} (y0 : 0 ≤ y) (y1 : y < n) (x0 : 0 ≤ x) (x1 : x < n) (v0 : 0 ≤ v) (v1 : v < n) : ∀ u : Nat, (u : Int) ≤ n → -(1000000000000 * (u : Int)) ≤ rowS g bm n y x v u ∧ rowS g bm n y x v u ≤ 1000000000000 * (u : Int) := by
  intro u
  induction u with
  | zero => intro _; exact ⟨by simp [rowS], by simp [rowS]⟩
  | succ u ih =>
    intro hu
    have h1 := ih (by omega)
    have h2 := k.term y0 y1 x0 x1 v0 v1 (u := (u : Int)) (by omega) (by omega)
    unfold within at h2
    show _ ≤ rowS g bm n y x v u + Go.Proofs.Ytogofeppflindaa.term g bm n y x v u ∧ rowS g bm n y x v u + Go.Proofs.Ytogofeppflindaa.term g bm n y x v u ≤ _
    omega
theorem SprOK.all {g bm : Grid} {n : Int} (k : SprOK g bm n) {y x : Int} (y0 : 0 ≤ y) (y1 : y < n) (x0 : 0 ≤ x) (x1 : x < n) : ∀ v : Nat, (v : Int) ≤ n → -(8000000000000 * (v : Int)) ≤ allS g bm n y x v ∧ allS g bm n y x v ≤ 8000000000000 * (v : Int) := by
  intro v
  have n1 := k.n1
  have n8 := k.n8
  induction v with
  | zero => intro _; exact ⟨by simp [allS], by simp [allS]⟩
  | succ v ih =>
    intro hv
    have h1 := ih (by omega)
    have h2 := k.row y0 y1 x0 x1 (v := (v : Int)) (by omega) (by omega) n.toNat (by omega)
    show _ ≤ allS g bm n y x v + rowS g bm n y x v n.toNat ∧ allS g bm n y x v + rowS g bm n y x v n.toNat ≤ _
    omega
theorem SprOK.acc {g bm : Grid} {n : Int} (k : SprOK g bm n) {y x v u : Int} (y0 : 0 ≤ y) (y1 : y < n) (x0 : 0 ≤ x) (x1 : x < n) (v0 : 0 ≤ v) (v1 : v < n) (u0 : 0 ≤ u) (u1 : u ≤ n) : within 72000000000000 (accS g bm n v u y x) := by
  have n8 := k.n8
  have h1 := k.row y0 y1 x0 x1 v0 v1 u.toNat (by omega)
  have h2 := k.all y0 y1 x0 x1 v.toNat (by omega)
  unfold within accS
  omega

theorem mkG_congr {n : Int} (hn : 0 ≤ n) {f f' : Int → Int → Int} (h : ∀ y x : Int, 0 ≤ y → y < n → 0 ≤ x → x < n → f y x = f' y x) : mkG n f = mkG n f' :=
  shp_ext (mkG_shp hn f) (mkG_shp hn f') (fun y x h1 h2 h3 h4 => by rw [mkG_cell f h1 h2 h3 h4, mkG_cell f' h1 h2 h3 h4]; exact h y x h1 h2 h3 h4)

theorem spread_step {g bm : Grid} {n v u : Int} (hn : 0 ≤ n) (u0 : 0 ≤ u) : subG (mkG n (accS g bm n v u)) bm n ⟨u, v, 0 - cell g v u⟩ = mkG n (accS g bm n v (u + 1)) := by
  unfold subG
  refine mkG_congr hn (fun y x h1 h2 h3 h4 => ?_)
  unfold subC
  rw [mkG_cell _ h1 h2 h3 h4, acc_next u0]
  unfold term
  simp only []
  rw [Int.zero_sub, Int.neg_mul]
  omega

/-- The whole sums. -/
def convS (g bm : Grid) (n y x : Int) : Int := accS g bm n n 0 y x
def convOK (g bm : Grid) (n : Int) : Prop := ∀ y x : Int, 0 ≤ y → y < n → 0 ≤ x → x < n → within 1000000000 (convS g bm n y x)

/-- What Spread answers. -/
def SprIs (img bm : Grid) (e : Int) (r : Option Grid) : Prop :=
  (¬ imgP img 1000000000 ∧ e = 2 ∧ r = none) ∨ (imgP img 1000000000 ∧ ¬ beamP bm img.length ∧ e = 8 ∧ r = none) ∨
    (imgP img 1000000000 ∧ beamP bm img.length ∧ ¬ convOK img bm img.length ∧ e = 16 ∧ r = none) ∨
    (imgP img 1000000000 ∧ beamP bm img.length ∧ convOK img bm img.length ∧ e = 0 ∧ r = some (mkG img.length (convS img bm img.length)))

theorem SprIs.uniq {img bm : Grid} {e e' : Int} {r r' : Option Grid} (h : SprIs img bm e r) (h' : SprIs img bm e' r') : e = e' ∧ r = r' := by
  unfold SprIs at h h'
  rcases h with ⟨a, rfl, rfl⟩ | ⟨a, b, rfl, rfl⟩ | ⟨a, b, d, rfl, rfl⟩ | ⟨a, b, d, rfl, rfl⟩ <;> rcases h' with ⟨a', rfl, rfl⟩ | ⟨a', b', rfl, rfl⟩ | ⟨a', b', d', rfl, rfl⟩ | ⟨a', b', d', rfl, rfl⟩ <;>
    first | exact ⟨rfl, rfl⟩ | exact absurd a a' | exact absurd a' a | exact absurd b b' | exact absurd b' b | exact absurd d d' | exact absurd d' d

variable {call : FuncId → List Value → AHeap → (Value → AHeap → Prop) → Prop}
  {head : FuncId → Nat → Nat → SS → (Exit → SS → Prop) → Prop}
  {arith : BinOp → IntKind → Int → Int → Int}
  {cmp : BinOp → Int → Int → Bool}
  {scmp : BinOp → ByteArray → ByteArray → Bool}
  {bnot : Bool → Bool}
  {bsame : Bool → Bool → Bool}
  {conv : IntKind → Int → Int}
  {neg : IntKind → Int → Int}
  {imax : Int → Int → Int}
  {imin : Int → Int → Int}
  {ofNat : Nat → Int}
  {slen : ByteArray → Int}
  {place : Nat → Int → Nat → Nat}
  {inR : Int → Nat → Prop}
  {nz : Int → Prop}
  {geZ : Int → Prop}
  {rd : AHeap → Nat → Nat → Nat → List Value → Prop}
  {wr : AHeap → Nat → Nat → List Value → AHeap → Prop}
  {push : AHeap → Nat → List Value → AHeap}
  {next : AHeap → Nat}
  {mkOK : Int → Int → Prop}
  {nat : Int → Nat}
  {zeros : List Value → Int → List Value}
  {sadd : ByteArray → ByteArray → (ByteArray → Prop) → Prop}
  {eqAgg : TypeId → Array Value → Array Value → (Bool → Prop) → Prop}
  {cut : Nat → Int → Prop}
  {slc : TypeId → Value → Option Value → Option Value → Option Value → (Option Addr → Nat → Nat → Prop) → Prop}
  {sslc : TypeId → ByteArray → Option Value → Option Value → (ByteArray → Prop) → Prop}
  {strAt : ByteArray → Int → (Int → Prop) → Prop}
  {part : TypeId → Array Value → Nat → Value → Prop}
  {app : List TypeId → List Value → AHeap → (Option Addr → Nat → Nat → AHeap → Prop) → Prop}
  {cpy : List TypeId → List Value → AHeap → (Int → AHeap → Prop) → Prop}
  {putAt : AHeap → Nat → Nat → List Value → AHeap}
  {fresh : AHeap → AHeap}
  {lowered : AHeap → AHeap → AHeap}
  {bump : AHeap → Nat → AHeap}
  {wrote : AHeap → AHeap → Bool}
  {addN : Nat → Nat → Nat}
  {lt : Nat → Nat → Prop}
  {ne : Nat → Nat → Prop}
  {fpAll : Bool → Bool → Bool → Nat → Nat → Prop}
  {brk : (Unit → Prop) → Prop}
  {yn : Nat → Nat}
  {rng : FuncId → Nat → SS → (Exit → SS → Prop) → Prop}
  {mget : TypeId → Value → Value → AHeap → Value → Bool → Prop}
  {mput : TypeId → Value → Value → Value → AHeap → AHeap → Prop}
  {mnew : AHeap → AHeap}
  {bytes : TypeId → TypeId → Option Addr → Nat → AHeap → ByteArray → Prop}
  {clr : List TypeId → List Value → AHeap → AHeap → Prop}
  (hA : AOK progU hint prims ⟨call, head, arith, cmp, scmp, bnot, bsame, conv, neg, imax, imin, ofNat, slen, place, inR, nz, geZ, rd, wr, push, next, mkOK, nat, zeros, sadd, eqAgg, cut, slc, sslc, strAt, part, app, cpy, putAt, fresh, lowered, bump, wrote, addN, lt, ne, fpAll, brk, yn, rng, mget, mput, mnew, bytes, clr⟩)
include hA

theorem rspr_inner {h0 : AHeap} (hlow0 : h0.low ≤ h0.next) {ag : Option Addr} {m cg : Nat} {g : Grid} (hg : Img h0 ag m g) {ab : Option Addr} {mb cb : Nat} {bm : Grid} (hb : Img h0 ab mb bm) {n : Int} (hmn : (m : Int) = n) (k : SprOK g bm n) {a : Option Addr} {c : Nat} {bs : List (Nat × Nat)} {lo : Nat} (hlo : h0.next ≤ lo) {v : Int} (v0 : 0 ≤ v) (v1 : v < n) {Q : Exit → SS → Prop}
    (h1 : ∀ h', Ext h0 h' → OImg h' lo a m bs (mkG n (accS g bm n v n)) → Q (.exit 2) ⟨[(0, .slice ag m cg), (1, .slice ab mb cb), (6, .int .i64 n), (7, .slice a m c), (8, .int .i64 v)], 0, [], h'⟩) :
    ∀ u : Int, 0 ≤ u → u ≤ m → ∀ h, Ext h0 h → OImg h lo a m bs (mkG n (accS g bm n v u)) → head 25 11 0 ⟨[(0, .slice ag m cg), (1, .slice ab mb cb), (6, .int .i64 n), (7, .slice a m c), (8, .int .i64 v), (9, .int .i64 u)], 0, [], h⟩ Q := by
  have n1 := k.n1
  have n8 := k.n8
  refine countUp (fun u u0 hun ih h e ho => ?_)
  refine hA.roundR Try.func25 r25_ok ?_; (try (conv => cbv)); repeat (refine brk_ok hA ?_; (try (conv => cbv)))
  refine br (u < n) (by rw [e_lss hA]) (fun c1 => ?_) (fun c1 => ?_) <;> (try (conv => cbv)) <;> repeat (refine brk_ok hA ?_; (try (conv => cbv)))
  · obtain ⟨b, o, ra, rn, rc, rfl, hbn, hrd, hrow, hrl⟩ := (hg.ext e).row v0 (by omega)
    have hrl2 := (k.gs.2 v v0 v1).1
    refine ⟨b, o, rfl, in_ok hA v0 (by omega), ?_⟩
    ((try (conv => cbv)); repeat (refine brk_ok hA ?_; (try (conv => cbv))))
    refine ⟨ra, rn, rc, rd_ok hA hrd, ?_⟩
    ((try (conv => cbv)); repeat (refine brk_ok hA ?_; (try (conv => cbv))))
    obtain ⟨b2, o2, z, rfl, hb2n, hz, hrd2⟩ := hrow.at u0 (by omega)
    refine ⟨b2, o2, rfl, in_ok hA u0 (by omega), ?_⟩
    ((try (conv => cbv)); repeat (refine brk_ok hA ?_; (try (conv => cbv))))
    refine ⟨z, rd_ok hA hrd2, ?_⟩
    have hzc : z = cell g v u := hz
    have hzb := (squareP_iff.1 k.gs).2 v u v0 v1 u0 c1
    rw [← hzc] at hzb
    have hzb' := hzb
    unfold within at hzb'
    have hneg : neg .i64 z = 0 - z := by rw [e_neg hA, wrap64 (by omega) (by omega)]
    ((try (conv => cbv)); repeat (refine brk_ok hA ?_; (try (conv => cbv))))
    rw [hneg]
    have hk : SubOK (mkG n (accS g bm n v u)) bm n ⟨u, v, 0 - z⟩ := {
      n1 := n1, n8 := n8, gs := mkG_shp (by omega) _,
      gb := fun y x h1 h2 h3 h4 => by
        rw [mkG_cell _ h1 h2 h3 h4]
        have := k.acc h1 h2 h3 h4 v0 v1 u0 (by omega)
        unfold within at *
        omega
      bs := k.bs, x0 := u0, x1 := c1, y0 := v0, y1 := v1, f := by unfold within; simp only []; omega }
    refine rsub_ok hA hlow0 e hb hlo hmn hk ho (fun h' e' ho' => ?_)
    rw [hzc, spread_step (by omega) u0] at ho'
    ((try (conv => cbv)); repeat (refine brk_ok hA ?_; (try (conv => cbv))))
    rw [add64 hA (by omega) (by omega)]
    exact ih (by omega) h' e' ho'
  · have : u = n := by omega
    subst this
    exact h1 h e ho

theorem rspr_outer {h0 : AHeap} (hlow0 : h0.low ≤ h0.next) {ag : Option Addr} {m cg : Nat} {g : Grid} (hg : Img h0 ag m g) {ab : Option Addr} {mb cb : Nat} {bm : Grid} (hb : Img h0 ab mb bm) {n : Int} (hmn : (m : Int) = n) (k : SprOK g bm n) {a : Option Addr} {c : Nat} {bs : List (Nat × Nat)} {lo : Nat} (hlo : h0.next ≤ lo) {Q : Exit → SS → Prop}
    (h1 : ∀ h', Ext h0 h' → OImg h' lo a m bs (mkG n (convS g bm n)) → Q (.exit 0) ⟨[(7, .slice a m c)], 0, [], h'⟩) :
    ∀ v : Int, 0 ≤ v → v ≤ m → ∀ h, Ext h0 h → OImg h lo a m bs (mkG n (accS g bm n v 0)) → head 25 8 0 ⟨[(0, .slice ag m cg), (1, .slice ab mb cb), (6, .int .i64 n), (7, .slice a m c), (8, .int .i64 v)], 0, [], h⟩ Q := by
  have n1 := k.n1
  have n8 := k.n8
  refine countUp (fun v v0 hvn ih h e ho => ?_)
  refine hA.roundR Try.func25 r25_ok ?_; (try (conv => cbv)); repeat (refine brk_ok hA ?_; (try (conv => cbv)))
  refine br (v < n) (by rw [e_lss hA]) (fun c1 => ?_) (fun c1 => ?_) <;> (try (conv => cbv)) <;> repeat (refine brk_ok hA ?_; (try (conv => cbv)))
  · refine rspr_inner hA hlow0 hg hb hmn k hlo v0 c1 (fun h' e' ho' => ?_) 0 (by omega) (by omega) h e ho
    rw [mkG_congr (by omega) (fun y x _ _ _ _ => acc_line v0)] at ho'
    ((try (conv => cbv)); repeat (refine brk_ok hA ?_; (try (conv => cbv))))
    rw [add64 hA (by omega) (by omega)]
    exact ih (by omega) h' e' ho'
  · have : v = n := by omega
    subst this
    exact h1 h e ho

theorem rspr_ok {h : AHeap} (hlow : h.low ≤ h.next) {a : Option Addr} {m c : Nat} {img : Grid} (hg : Img h a m img) {ab : Option Addr} {mb cb : Nat} {bm : Grid} (hb : Img h ab mb bm) {Q : Value → AHeap → Prop}
    (hbad : ∀ e h', Ext h h' → SprIs img bm e none → Q (.tuple #[.slice none 0 0, .int .i64 e]) h')
    (hok : ∀ g' a' c' bs h', Ext h h' → OImg h' h.next a' m bs g' → SprIs img bm 0 (some g') → Q (.tuple #[.slice a' m c', .int .i64 0]) h') : call 25 [.slice a m c, .slice ab mb cb] h Q := by
  have hgl := hg.len
  refine hA.bodyR Try.func25 r25_ok (show prims _ _ _ = none from rfl) hlow ?_; (try (conv => cbv)); repeat (refine brk_ok hA ?_; (try (conv => cbv)))
  refine rimg_ok hA hlow hg (by omega) (by omega) (fun r hr => ⟨_, rfl, ?_⟩)
  ((try (conv => cbv)); repeat (refine brk_ok hA ?_; (try (conv => cbv))))
  cases r with
  | false =>
    ((try (conv => cbv)); repeat (refine brk_ok hA ?_; (try (conv => cbv))))
    refine br (True) (by rw [e_bnot hA]; rfl) (fun _ => ?_) (fun q => absurd trivial q) <;> (try (conv => cbv)) <;> repeat (refine brk_ok hA ?_; (try (conv => cbv)))
    exact hbad _ h (.refl _) (.inl ⟨(fun q => by have := hr.2 q; cases this), rfl, rfl⟩)
  | true =>
    have hi := hr.1 rfl
    have hi1 := hi.1
    have hi2 := hi.2.1
    have hmo : ofNat m = (img.length : Int) := by rw [e_ofNat hA]; omega
    ((try (conv => cbv)); repeat (refine brk_ok hA ?_; (try (conv => cbv))))
    refine br (False) (by rw [e_bnot hA]; rfl) (fun q => q.elim) (fun _ => ?_) <;> (try (conv => cbv)) <;> repeat (refine brk_ok hA ?_; (try (conv => cbv)))
    rw [hmo]
    obtain ⟨n, hn⟩ : ∃ n : Int, n = img.length := ⟨_, rfl⟩
    rw [← hn]
    rw [← hn] at hi1 hi2
    refine rbeam_ok hA hlow hb (n := n) (by omega) (by omega) (fun r2 hr2 => ⟨_, rfl, ?_⟩)
    ((try (conv => cbv)); repeat (refine brk_ok hA ?_; (try (conv => cbv))))
    cases r2 with
    | false =>
      ((try (conv => cbv)); repeat (refine brk_ok hA ?_; (try (conv => cbv))))
      refine br (True) (by rw [e_bnot hA]; rfl) (fun _ => ?_) (fun q => absurd trivial q) <;> (try (conv => cbv)) <;> repeat (refine brk_ok hA ?_; (try (conv => cbv)))
      exact hbad _ h (.refl _) (.inr (.inl ⟨hi, (fun q => by rw [← hn] at q; have := hr2.2 q; cases this), rfl, rfl⟩))
    | true =>
      have hb1 := hr2.1 rfl
      have hsq := hi.2.2
      rw [← hn] at hsq
      ((try (conv => cbv)); repeat (refine brk_ok hA ?_; (try (conv => cbv))))
      refine br (False) (by rw [e_bnot hA]; rfl) (fun q => q.elim) (fun _ => ?_) <;> (try (conv => cbv)) <;> repeat (refine brk_ok hA ?_; (try (conv => cbv)))
      refine blank_ok hA hlow (n := n) (by omega) (by omega) (fun a' m' c' bs h1 hmn e1 ho1 => ⟨_, _, _, rfl, ?_⟩)
      obtain rfl : m' = m := by omega
      have hk : SprOK img bm n := ⟨hi1, hi2, hsq, hb1.1⟩
      ((try (conv => cbv)); repeat (refine brk_ok hA ?_; (try (conv => cbv))))
      refine rspr_outer hA hlow hg hb hmn hk (Nat.le_refl _) (fun h' e' ho' => ?_) 0 (by omega) (by omega) h1 e1 ho1
      ((try (conv => cbv)); repeat (refine brk_ok hA ?_; (try (conv => cbv))))
      refine rimg_ok hA (e'.lowOK hlow) ho'.img (by omega) (by omega) (fun r3 hr3 => ⟨_, rfl, ?_⟩)
      rw [mk_img (by omega) (by omega)] at hr3
      ((try (conv => cbv)); repeat (refine brk_ok hA ?_; (try (conv => cbv))))
      cases r3 with
      | false =>
        ((try (conv => cbv)); repeat (refine brk_ok hA ?_; (try (conv => cbv))))
        refine br (True) (by rw [e_bnot hA]; rfl) (fun _ => ?_) (fun q => absurd trivial q) <;> (try (conv => cbv)) <;> repeat (refine brk_ok hA ?_; (try (conv => cbv)))
        exact hbad _ h' e' (.inr (.inr (.inl ⟨hi, by rw [← hn]; exact hb1, (fun q => by rw [← hn] at q; have := hr3.2 q; cases this), rfl, rfl⟩)))
      | true =>
        ((try (conv => cbv)); repeat (refine brk_ok hA ?_; (try (conv => cbv))))
        refine br (False) (by rw [e_bnot hA]; rfl) (fun q => q.elim) (fun _ => ?_) <;> (try (conv => cbv)) <;> repeat (refine brk_ok hA ?_; (try (conv => cbv)))
        exact hok _ _ _ _ h' e' ho' (.inr (.inr (.inr ⟨hi, by rw [← hn]; exact hb1, by rw [← hn]; exact hr3.1 rfl, rfl, by rw [← hn]⟩)))

end Go.Proofs.Ytogofeppflindaa
