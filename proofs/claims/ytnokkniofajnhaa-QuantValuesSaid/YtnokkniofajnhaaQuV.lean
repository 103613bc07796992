/-
  Corrections: Value and Inverse, by the program and by the reference.
-/
import Derived.Test.YtnokkniofajnhaaQuI
namespace Go.Proofs.Ytnokkniofajnhaa
open Go.Sim
set_option linter.unusedVariables false
set_option maxRecDepth 100000

/-- What Value answers. -/
def ValIs (l : List Kr) (xn xd u v e : Int) : Prop :=
  (¬ GoodL l ∧ CheckIs l e ∧ u = 0 ∧ v = 0) ∨ (GoodL l ∧ ¬ okF xn xd ∧ u = 0 ∧ v = 0 ∧ e = 8) ∨ (GoodL l ∧ okF xn xd ∧ ¬ smallF 10000 xn xd ∧ u = 0 ∧ v = 0 ∧ e = 16) ∨
  (GoodL l ∧ smallF 10000 xn xd ∧ ¬ (kx (toK l) 0 ≤ rq xn xd ∧ rq xn xd ≤ kx (toK l) (l.length - 1)) ∧ u = 0 ∧ v = 0 ∧ e = 6) ∨
  (GoodL l ∧ smallF 10000 xn xd ∧ (kx (toK l) 0 ≤ rq xn xd ∧ rq xn xd ≤ kx (toK l) (l.length - 1)) ∧ ∃ q, isF u v q ∧ ValQ (toK l) (rq xn xd) q ∧ e = 0)
theorem ValIs.uniq {l : List Kr} {xn xd u v e u' v' e' : Int} (h : ValIs l xn xd u v e) (k : ValIs l xn xd u' v' e') : u = u' ∧ v = v' ∧ e = e' := by
  rcases h with ⟨a, a1, rfl, rfl⟩ | ⟨a, a1, rfl, rfl, rfl⟩ | ⟨a, a1, a2, rfl, rfl, rfl⟩ | ⟨a, a1, a2, rfl, rfl, rfl⟩ | ⟨a, a1, a2, q, a3, a4, rfl⟩ <;> rcases k with ⟨b, b1, rfl, rfl⟩ | ⟨b, b1, rfl, rfl, rfl⟩ | ⟨b, b1, b2, rfl, rfl, rfl⟩ | ⟨b, b1, b2, rfl, rfl, rfl⟩ | ⟨b, b1, b2, q', b3, b4, rfl⟩ <;>
    first | exact ⟨rfl, rfl, rfl⟩ | exact absurd a b | exact absurd b a | exact ⟨rfl, rfl, a1.uniq b1⟩ | exact absurd a1 b1 | exact absurd b1 a1 | exact absurd a1.1 b1 | exact absurd b1.1 a1 | exact absurd a1 b2 | exact absurd b1 a2 | exact absurd a2 b2 | exact absurd b2 a2 | skip
  obtain rfl := a4.uniq a.corr b4
  exact ⟨a3.1.trans b3.1.symm, a3.2.1.trans b3.2.1.symm, rfl⟩
theorem CheckIs.good {l : List Kr} {e : Int} (h : CheckIs l e) : e = 0 ↔ GoodL l := by
  rcases h with ⟨a, rfl⟩ | ⟨a, b, rfl⟩ | ⟨a, rfl⟩
  · exact ⟨fun q => by omega, fun g => by have := g.most; omega⟩
  · exact ⟨fun q => by omega, fun g => absurd g b⟩
  · exact ⟨fun _ => a, fun _ => rfl⟩

variable {F : Prims}
  {call : FuncId → List Value → AHeap → (Value → AHeap → Prop) → Prop}
  {head : FuncId → Nat → Nat → SS → (Exit → SS → Prop) → Prop}
  {arith : BinOp → IntKind → Int → Int → Int}
  {cmp : BinOp → Int → Int → Bool}
  {scmp : BinOp → ByteArray → ByteArray → Bool}
  {bnot : Bool → Bool}
  {bsame : Bool → Bool → Bool}
  {conv : IntKind → Int → Int}
  {neg : IntKind → Int → Int}
  {imax : Int → Int → Int}
  {imin : Int → Int → Int}
  {ofNat : Nat → Int}
  {slen : ByteArray → Int}
  {place : Nat → Int → Nat → Nat}
  {inR : Int → Nat → Prop}
  {nz : Int → Prop}
  {geZ : Int → Prop}
  {rd : AHeap → Nat → Nat → Nat → List Value → Prop}
  {wr : AHeap → Nat → Nat → List Value → AHeap → Prop}
  {push : AHeap → Nat → List Value → AHeap}
  {next : AHeap → Nat}
  {mkOK : Int → Int → Prop}
  {nat : Int → Nat}
  {zeros : List Value → Int → List Value}
  {sadd : ByteArray → ByteArray → (ByteArray → Prop) → Prop}
  {eqAgg : TypeId → Array Value → Array Value → (Bool → Prop) → Prop}
  {cut : Nat → Int → Prop}
  {slc : TypeId → Value → Option Value → Option Value → Option Value → (Option Addr → Nat → Nat → Prop) → Prop}
  {sslc : TypeId → ByteArray → Option Value → Option Value → (ByteArray → Prop) → Prop}
  {strAt : ByteArray → Int → (Int → Prop) → Prop}
  {part : TypeId → Array Value → Nat → Value → Prop}
  {app : List TypeId → List Value → AHeap → (Option Addr → Nat → Nat → AHeap → Prop) → Prop}
  {cpy : List TypeId → List Value → AHeap → (Int → AHeap → Prop) → Prop}
  {putAt : AHeap → Nat → Nat → List Value → AHeap}
  {fresh : AHeap → AHeap}
  {lowered : AHeap → AHeap → AHeap}
  {bump : AHeap → Nat → AHeap}
  {wrote : AHeap → AHeap → Bool}
  {addN : Nat → Nat → Nat}
  {lt : Nat → Nat → Prop}
  {ne : Nat → Nat → Prop}
  {fpAll : Bool → Bool → Bool → Nat → Nat → Prop}
  {brk : (Unit → Prop) → Prop}
  {yn : Nat → Nat}
  {rng : FuncId → Nat → SS → (Exit → SS → Prop) → Prop}
  {mget : TypeId → Value → Value → AHeap → Value → Bool → Prop}
  {mput : TypeId → Value → Value → Value → AHeap → AHeap → Prop}
  {mnew : AHeap → AHeap}
  {bytes : TypeId → TypeId → Option Addr → Nat → AHeap → ByteArray → Prop}
  {clr : List TypeId → List Value → AHeap → AHeap → Prop}
  (hA : AP F ⟨call, head, arith, cmp, scmp, bnot, bsame, conv, neg, imax, imin, ofNat, slen, place, inR, nz, geZ, rd, wr, push, next, mkOK, nat, zeros, sadd, eqAgg, cut, slc, sslc, strAt, part, app, cpy, putAt, fresh, lowered, bump, wrote, addN, lt, ne, fpAll, brk, yn, rng, mget, mput, mnew, bytes, clr⟩)
include hA

theorem value_ok {h : AHeap} (hlow : h.low ≤ h.next) {a : Option Addr} {n c : Nat} {l : List Kr} (hl : Ks h a n l) (hi : allI64 l) {xn xd : Int} (hn : i64 xn) (hd : i64 xd) {Q : Value → AHeap → Prop}
    (hQ : ∀ u v e h', ValIs l xn xd u v e → Ext h h' → Q (.tuple #[.agg #[.int .i64 u, .int .i64 v], .int .i64 e]) h') : call 10 [.slice a n c, .agg #[.int .i64 xn, .int .i64 xd]] h Q := by
  have hlen := hl.len
  refine hA.bodyR Try.func10 r10_ok (hA.alike _ _ _ rfl) hlow ?_; (try (conv => cbv)); repeat (refine brk_ok hA ?_; (try (conv => cbv)))
  refine qcheck_ok hA hlow hl hi (fun e1 h1 k1 x1 => ⟨_, rfl, ?_⟩)
  have l1 := x1.lowOK hlow
  ((try (conv => cbv)); repeat (refine brk_ok hA ?_; (try (conv => cbv))))
  refine br (e1 ≠ 0) (by rw [e_neq hA]) (fun c1 => ?_) (fun c1 => ?_) <;> (try (conv => cbv)) <;> repeat (refine brk_ok hA ?_; (try (conv => cbv)))
  · exact hQ _ _ _ _ (.inl ⟨fun g => c1 (k1.good.2 g), k1, rfl, rfl⟩) x1
  have g : GoodL l := k1.good.1 (by omega)
  refine check_ok hA l1 hn hd (fun e2 h2 k2 x2 => ⟨_, rfl, ?_⟩)
  have y2 := x1.trans x2
  have l2 := y2.lowOK hlow
  ((try (conv => cbv)); repeat (refine brk_ok hA ?_; (try (conv => cbv))))
  refine br (e2 ≠ 0) (by rw [e_neq hA]) (fun c2 => ?_) (fun c2 => ?_) <;> (try (conv => cbv)) <;> repeat (refine brk_ok hA ?_; (try (conv => cbv)))
  · exact hQ _ _ _ _ (.inr (.inl ⟨g, by rcases k2 with ⟨q, _⟩ | ⟨_, q⟩; exact absurd q c2; exact q, rfl, rfl, rfl⟩)) y2
  have hok : okF xn xd := by rcases k2 with ⟨_, q⟩ | ⟨q, _⟩; exact q; omega
  refine small_ok' hA l2 hn hd (by omega) (fun b3 h3 k3 x3 => ⟨_, rfl, ?_⟩)
  have y3 := y2.trans x3
  have l3 := y3.lowOK hlow
  ((try (conv => cbv)); repeat (refine brk_ok hA ?_; (try (conv => cbv))))
  refine br (b3 = false) (by rw [e_bnot hA]; cases b3 <;> rfl) (fun c3 => ?_) (fun c3 => ?_) <;> (try (conv => cbv)) <;> repeat (refine brk_ok hA ?_; (try (conv => cbv)))
  · exact hQ _ _ _ _ (.inr (.inr (.inl ⟨g, hok, (fun w => by have := k3.2 w; rw [c3] at this; cases this), rfl, rfl, rfl⟩))) y3
  have hs : smallF 10000 xn xd := k3.1 (by cases b3 with | true => rfl | false => exact absurd rfl c3)
  have g1 := g.two
  have g2 := g.most
  obtain ⟨b, o, rfl⟩ := ks_some hl (by omega)
  obtain ⟨h9, hh9⟩ : ∃ z, z = bump h3 19 := ⟨_, rfl⟩
  have e9 : Ext h h9 := by rw [hh9]; exact y3.trans (ext_bump hA _ _)
  have l9 := e9.lowOK hlow
  rw [← hh9]
  obtain ⟨_, a1, a2, a3, a4, hg1, _, _, _, _, _, r1, _⟩ := ks_in (hl.ext e9) hi (i := 0) (by omega) (by omega)
  have q1 := rd_fld hA r1
  obtain ⟨i1, _⟩ := g.is (i := 0) (by omega) (by omega)
  rw [hg1] at i1
  replace i1 : isF a1 a2 _ := i1
  have out : ¬ (kx (toK l) 0 ≤ rq xn xd ∧ rq xn xd ≤ kx (toK l) (l.length - 1)) → ∀ h', Ext h h' → Q (.tuple #[.agg #[.int .i64 0, .int .i64 0], .int .i64 6]) h' := fun w h' x => hQ _ _ _ _ (.inr (.inr (.inr (.inl ⟨g, hs, w, rfl, rfl, rfl⟩)))) x
  ((try (conv => cbv)); repeat ((first | refine brk_ok hA ?_ | refine ⟨in_ok hA (by omega) (by omega), ?_⟩ | refine ⟨_, _, rfl, in_ok hA (by omega) (by omega), ?_⟩ | refine ⟨nz_ok hA (by omega), ?_⟩ | refine ⟨geZ_ok hA (by omega), ?_⟩ | refine ⟨ne_ok hA (by omega), ?_⟩ | refine ⟨wrote_no hA (by assumption), ?_⟩ | refine ⟨wrote_no hA (.refl _), ?_⟩ | refine ⟨_, ‹rd _ _ _ _ _›, ?_⟩ | refine ⟨_, _, ‹rd _ _ _ _ _›, ?_⟩ | refine ⟨_, _, _, _, ‹rd _ _ _ _ _›, ?_⟩ | refine ⟨_, ‹wr _ _ _ _ _›, ?_⟩); (try (conv => cbv))))
  refine qorder_ok hA (low_fresh hA h9) hok.is i1 (fun r h10 hr x10 => ⟨_, rfl, ?_⟩)
  ((try (conv => cbv)); repeat (refine brk_ok hA ?_; (try (conv => cbv))))
  obtain ⟨h11, hh11⟩ : ∃ z, z = lowered h9 h10 := ⟨_, rfl⟩
  have e11 : Ext h h11 := by rw [hh11]; exact ext_low hA hlow e9 x10
  have l11 := e11.lowOK hlow
  rw [← hh11]
  obtain ⟨nn, hnn⟩ : ∃ z : Int, z = n - 1 := ⟨_, rfl⟩
  have en : arith .sub .i64 (ofNat n) 1 = nn := by rw [e_ofNat hA, hnn]; exact sub64 hA (by omega) (by omega)
  obtain ⟨_, b1, b2, b3', b4, hg2, _, _, _, _, _, r2, _⟩ := ks_in (hl.ext e11) hi (i := nn) (by omega) (by omega)
  have q2 := rd_fld hA r2
  obtain ⟨i2, _⟩ := g.is (i := nn) (by omega) (by omega)
  rw [hg2] at i2
  replace i2 : isF b1 b2 _ := i2
  rw [hlen, ← hnn] at out
  refine br (r < 0) (by rw [e_lss hA]) (fun c4 => ?_) (fun c4 => ?_) <;> (try (conv => cbv)) <;> repeat (refine brk_ok hA ?_; (try (conv => cbv)))
  · rw [hr] at c4
    have lt := cmpF_lt.1 c4
    ((try (conv => cbv)); repeat ((first | refine brk_ok hA ?_ | refine ⟨in_ok hA (by omega) (by omega), ?_⟩ | refine ⟨_, _, rfl, in_ok hA (by omega) (by omega), ?_⟩ | refine ⟨nz_ok hA (by omega), ?_⟩ | refine ⟨geZ_ok hA (by omega), ?_⟩ | refine ⟨ne_ok hA (by omega), ?_⟩ | refine ⟨wrote_no hA (by assumption), ?_⟩ | refine ⟨wrote_no hA (.refl _), ?_⟩ | refine ⟨_, ‹rd _ _ _ _ _›, ?_⟩ | refine ⟨_, _, ‹rd _ _ _ _ _›, ?_⟩ | refine ⟨_, _, _, _, ‹rd _ _ _ _ _›, ?_⟩ | refine ⟨_, ‹wr _ _ _ _ _›, ?_⟩); (try (conv => cbv))))
    exact out (fun w => by have := w.1; grind) _ e11
  rw [hr] at c4
  have le1 : kx (toK l) 0 ≤ rq xn xd := Rat.not_lt.1 (fun w => c4 (cmpF_lt.2 w))
  rw [en]
  ((try (conv => cbv)); repeat ((first | refine brk_ok hA ?_ | refine ⟨in_ok hA (by omega) (by omega), ?_⟩ | refine ⟨_, _, rfl, in_ok hA (by omega) (by omega), ?_⟩ | refine ⟨nz_ok hA (by omega), ?_⟩ | refine ⟨geZ_ok hA (by omega), ?_⟩ | refine ⟨ne_ok hA (by omega), ?_⟩ | refine ⟨wrote_no hA (by assumption), ?_⟩ | refine ⟨wrote_no hA (.refl _), ?_⟩ | refine ⟨_, ‹rd _ _ _ _ _›, ?_⟩ | refine ⟨_, _, ‹rd _ _ _ _ _›, ?_⟩ | refine ⟨_, _, _, _, ‹rd _ _ _ _ _›, ?_⟩ | refine ⟨_, ‹wr _ _ _ _ _›, ?_⟩); (try (conv => cbv))))
  refine qorder_ok hA (low_fresh hA h11) hok.is i2 (fun s h12 hsv x12 => ⟨_, rfl, ?_⟩)
  ((try (conv => cbv)); repeat (refine brk_ok hA ?_; (try (conv => cbv))))
  obtain ⟨h13, hh13⟩ : ∃ z, z = lowered h11 h12 := ⟨_, rfl⟩
  have e13 : Ext h h13 := by rw [hh13]; exact ext_low hA hlow e11 x12
  have l13 := e13.lowOK hlow
  rw [← hh13]
  refine br (0 < s) (by rw [e_gtr hA]) (fun c5 => ?_) (fun c5 => ?_) <;> (try (conv => cbv)) <;> repeat (refine brk_ok hA ?_; (try (conv => cbv)))
  · rw [hsv] at c5
    have lt := cmpF_gt.1 c5
    exact out (fun w => by have := w.2; grind) _ e13
  rw [hsv] at c5
  have le2 : rq xn xd ≤ kx (toK l) nn := Rat.not_lt.1 (fun w => c5 (cmpF_gt.2 w))
  refine corrected_ok hA l13 (hl.ext e13) hi g hok.is hs.bnd le1 (by rw [← hnn]; exact le2) (fun u v q h14 hu hv _ x14 => ⟨_, _, _, rfl, ?_⟩)
  ((try (conv => cbv)); repeat (refine brk_ok hA ?_; (try (conv => cbv))))
  exact hQ u v 0 _ (.inr (.inr (.inr (.inr ⟨g, hs, ⟨le1, by rw [hlen, ← hnn]; exact le2⟩, q, hu, hv, rfl⟩)))) (e13.trans x14)

theorem rvalue_ok {h : AHeap} (hlow : h.low ≤ h.next) {a : Option Addr} {n c : Nat} {l : List Kr} (hl : Ks h a n l) (hi : allI64 l) {xn xd : Int} (hn : i64 xn) (hd : i64 xd) {Q : Value → AHeap → Prop}
    (hQ : ∀ u v e h', ValIs l xn xd u v e → Ext h h' → Q (.tuple #[.agg #[.int .i64 u, .int .i64 v], .int .i64 e]) h') : call 11 [.slice a n c, .agg #[.int .i64 xn, .int .i64 xd]] h Q := by
  have hlen := hl.len
  refine hA.bodyR Try.func11 r11_ok (hA.alike _ _ _ rfl) hlow ?_; (try (conv => cbv)); repeat (refine brk_ok hA ?_; (try (conv => cbv)))
  refine rqcheck_ok hA hlow hl hi (fun e1 h1 k1 x1 => ⟨_, rfl, ?_⟩)
  have l1 := x1.lowOK hlow
  ((try (conv => cbv)); repeat (refine brk_ok hA ?_; (try (conv => cbv))))
  refine br (e1 ≠ 0) (by rw [e_neq hA]) (fun c1 => ?_) (fun c1 => ?_) <;> (try (conv => cbv)) <;> repeat (refine brk_ok hA ?_; (try (conv => cbv)))
  · refine rqcheck_ok hA l1 (hl.ext x1) hi (fun e1' h1' k1' x1' => ⟨_, rfl, ?_⟩)
    ((try (conv => cbv)); repeat (refine brk_ok hA ?_; (try (conv => cbv))))
    exact hQ _ _ _ _ (.inl ⟨fun g => c1 (k1.good.2 g), k1', rfl, rfl⟩) (x1.trans x1')
  have g : GoodL l := k1.good.1 (by omega)
  refine rcheck_ok hA l1 hn hd (fun e2 h2 k2 x2 => ⟨_, rfl, ?_⟩)
  have y2 := x1.trans x2
  have l2 := y2.lowOK hlow
  ((try (conv => cbv)); repeat (refine brk_ok hA ?_; (try (conv => cbv))))
  refine br (e2 ≠ 0) (by rw [e_neq hA]) (fun c2 => ?_) (fun c2 => ?_) <;> (try (conv => cbv)) <;> repeat (refine brk_ok hA ?_; (try (conv => cbv)))
  · exact hQ _ _ _ _ (.inr (.inl ⟨g, by rcases k2 with ⟨q, _⟩ | ⟨_, q⟩; exact absurd q c2; exact q, rfl, rfl, rfl⟩)) y2
  have hok : okF xn xd := by rcases k2 with ⟨_, q⟩ | ⟨q, _⟩; exact q; omega
  refine fits_ok hA l2 hn hd (by omega) (fun b3 h3 k3 x3 => ⟨_, rfl, ?_⟩)
  have y3 := y2.trans x3
  have l3 := y3.lowOK hlow
  ((try (conv => cbv)); repeat (refine brk_ok hA ?_; (try (conv => cbv))))
  refine br (b3 = false) (by rw [e_bnot hA]; cases b3 <;> rfl) (fun c3 => ?_) (fun c3 => ?_) <;> (try (conv => cbv)) <;> repeat (refine brk_ok hA ?_; (try (conv => cbv)))
  · exact hQ _ _ _ _ (.inr (.inr (.inl ⟨g, hok, (fun w => by have := k3.2 w; rw [c3] at this; cases this), rfl, rfl, rfl⟩))) y3
  have hs : smallF 10000 xn xd := k3.1 (by cases b3 with | true => rfl | false => exact absurd rfl c3)
  have g1 := g.two
  have g2 := g.most
  obtain ⟨b, o, rfl⟩ := ks_some hl (by omega)
  obtain ⟨h9, hh9⟩ : ∃ z, z = bump h3 17 := ⟨_, rfl⟩
  have e9 : Ext h h9 := by rw [hh9]; exact y3.trans (ext_bump hA _ _)
  have l9 := e9.lowOK hlow
  rw [← hh9]
  obtain ⟨_, a1, a2, a3, a4, hg1, _, _, _, _, _, r1, _⟩ := ks_in (hl.ext e9) hi (i := 0) (by omega) (by omega)
  have q1 := rd_fld hA r1
  obtain ⟨i1, _⟩ := g.is (i := 0) (by omega) (by omega)
  rw [hg1] at i1
  replace i1 : isF a1 a2 _ := i1
  have out : ¬ (kx (toK l) 0 ≤ rq xn xd ∧ rq xn xd ≤ kx (toK l) (l.length - 1)) → ∀ h', Ext h h' → Q (.tuple #[.agg #[.int .i64 0, .int .i64 0], .int .i64 6]) h' := fun w h' x => hQ _ _ _ _ (.inr (.inr (.inr (.inl ⟨g, hs, w, rfl, rfl, rfl⟩)))) x
  ((try (conv => cbv)); repeat ((first | refine brk_ok hA ?_ | refine ⟨in_ok hA (by omega) (by omega), ?_⟩ | refine ⟨_, _, rfl, in_ok hA (by omega) (by omega), ?_⟩ | refine ⟨nz_ok hA (by omega), ?_⟩ | refine ⟨geZ_ok hA (by omega), ?_⟩ | refine ⟨ne_ok hA (by omega), ?_⟩ | refine ⟨wrote_no hA (by assumption), ?_⟩ | refine ⟨wrote_no hA (.refl _), ?_⟩ | refine ⟨_, ‹rd _ _ _ _ _›, ?_⟩ | refine ⟨_, _, ‹rd _ _ _ _ _›, ?_⟩ | refine ⟨_, _, _, _, ‹rd _ _ _ _ _›, ?_⟩ | refine ⟨_, ‹wr _ _ _ _ _›, ?_⟩); (try (conv => cbv))))
  refine qless_ok hA (low_fresh hA h9) hok.is i1 (fun r h10 hr x10 => ⟨_, rfl, ?_⟩)
  ((try (conv => cbv)); repeat (refine brk_ok hA ?_; (try (conv => cbv))))
  obtain ⟨h11, hh11⟩ : ∃ z, z = lowered h9 h10 := ⟨_, rfl⟩
  have e11 : Ext h h11 := by rw [hh11]; exact ext_low hA hlow e9 x10
  have l11 := e11.lowOK hlow
  rw [← hh11]
  obtain ⟨nn, hnn⟩ : ∃ z : Int, z = n - 1 := ⟨_, rfl⟩
  have en : arith .sub .i64 (ofNat n) 1 = nn := by rw [e_ofNat hA, hnn]; exact sub64 hA (by omega) (by omega)
  obtain ⟨_, b1, b2, b3', b4, hg2, _, _, _, _, _, r2, _⟩ := ks_in (hl.ext e11) hi (i := nn) (by omega) (by omega)
  have q2 := rd_fld hA r2
  obtain ⟨i2, _⟩ := g.is (i := nn) (by omega) (by omega)
  rw [hg2] at i2
  replace i2 : isF b1 b2 _ := i2
  rw [hlen, ← hnn] at out
  cases r with
  | true =>
    have lt := hr.1 rfl
    ((try (conv => cbv)); repeat ((first | refine brk_ok hA ?_ | refine ⟨in_ok hA (by omega) (by omega), ?_⟩ | refine ⟨_, _, rfl, in_ok hA (by omega) (by omega), ?_⟩ | refine ⟨nz_ok hA (by omega), ?_⟩ | refine ⟨geZ_ok hA (by omega), ?_⟩ | refine ⟨ne_ok hA (by omega), ?_⟩ | refine ⟨wrote_no hA (by assumption), ?_⟩ | refine ⟨wrote_no hA (.refl _), ?_⟩ | refine ⟨_, ‹rd _ _ _ _ _›, ?_⟩ | refine ⟨_, _, ‹rd _ _ _ _ _›, ?_⟩ | refine ⟨_, _, _, _, ‹rd _ _ _ _ _›, ?_⟩ | refine ⟨_, ‹wr _ _ _ _ _›, ?_⟩); (try (conv => cbv))))
    exact out (fun w => by have := w.1; grind) _ e11
  | false =>
  have le1 : kx (toK l) 0 ≤ rq xn xd := Rat.not_lt.1 (fun w => by have := hr.2 w; cases this)
  ((try (conv => cbv)); repeat (refine brk_ok hA ?_; (try (conv => cbv))))
  rw [en]
  ((try (conv => cbv)); repeat ((first | refine brk_ok hA ?_ | refine ⟨in_ok hA (by omega) (by omega), ?_⟩ | refine ⟨_, _, rfl, in_ok hA (by omega) (by omega), ?_⟩ | refine ⟨nz_ok hA (by omega), ?_⟩ | refine ⟨geZ_ok hA (by omega), ?_⟩ | refine ⟨ne_ok hA (by omega), ?_⟩ | refine ⟨wrote_no hA (by assumption), ?_⟩ | refine ⟨wrote_no hA (.refl _), ?_⟩ | refine ⟨_, ‹rd _ _ _ _ _›, ?_⟩ | refine ⟨_, _, ‹rd _ _ _ _ _›, ?_⟩ | refine ⟨_, _, _, _, ‹rd _ _ _ _ _›, ?_⟩ | refine ⟨_, ‹wr _ _ _ _ _›, ?_⟩); (try (conv => cbv))))
  refine qless_ok hA (low_fresh hA h11) i2 hok.is (fun s h12 hsv x12 => ⟨_, rfl, ?_⟩)
  ((try (conv => cbv)); repeat (refine brk_ok hA ?_; (try (conv => cbv))))
  obtain ⟨h13, hh13⟩ : ∃ z, z = lowered h11 h12 := ⟨_, rfl⟩
  have e13 : Ext h h13 := by rw [hh13]; exact ext_low hA hlow e11 x12
  have l13 := e13.lowOK hlow
  rw [← hh13]
  cases s with
  | true =>
    have lt := hsv.1 rfl
    ((try (conv => cbv)); repeat (refine brk_ok hA ?_; (try (conv => cbv))))
    exact out (fun w => by have := w.2; grind) _ e13
  | false =>
  have le2 : rq xn xd ≤ kx (toK l) nn := Rat.not_lt.1 (fun w => by have := hsv.2 w; cases this)
  ((try (conv => cbv)); repeat (refine brk_ok hA ?_; (try (conv => cbv))))
  refine at_ok hA l13 (hl.ext e13) hi g hok.is hs.bnd le1 (by rw [← hnn]; exact le2) (fun u v q h14 hu hv x14 => ⟨_, _, rfl, ?_⟩)
  ((try (conv => cbv)); repeat (refine brk_ok hA ?_; (try (conv => cbv))))
  exact hQ u v 0 _ (.inr (.inr (.inr (.inr ⟨g, hs, ⟨le1, by rw [hlen, ← hnn]; exact le2⟩, q, hu, hv, rfl⟩)))) (e13.trans x14)

omit hA in
/-- What Inverse answers: the list. -/
def invL (l : List Kr) (e : Int) : List Kr := if e = 0 then turnR l else []

theorem inverse_ok {h : AHeap} (hlow : h.low ≤ h.next) {a : Option Addr} {n c : Nat} {l : List Kr} (hl : Ks h a n l) (hi : allI64 l) {Q : Value → AHeap → Prop}
    (hQ : ∀ a' n' c' e h', CheckIs l e → Ks h' a' n' (invL l e) → Ext h h' → Q (.tuple #[.slice a' n' c', .int .i64 e]) h') : call 12 [.slice a n c] h Q := by
  have hlen := hl.len
  refine hA.bodyR Try.func12 r12_ok (hA.alike _ _ _ rfl) hlow ?_; (try (conv => cbv)); repeat (refine brk_ok hA ?_; (try (conv => cbv)))
  refine qcheck_ok hA hlow hl hi (fun e1 h1 k1 x1 => ⟨_, rfl, ?_⟩)
  have l1 := x1.lowOK hlow
  ((try (conv => cbv)); repeat (refine brk_ok hA ?_; (try (conv => cbv))))
  refine br (e1 ≠ 0) (by rw [e_neq hA]) (fun c1 => ?_) (fun c1 => ?_) <;> (try (conv => cbv)) <;> repeat (refine brk_ok hA ?_; (try (conv => cbv)))
  · exact hQ _ _ _ _ _ k1 (by unfold invL; rw [if_neg c1]; exact Rows.nil _ kr_len (by omega)) x1
  obtain rfl : e1 = 0 := by omega
  have g : GoodL l := k1.good.1 rfl
  have g2 := g.most
  refine inv_ok hA l1 (hl.ext x1) hi (by omega) (fun b' h2 ho hb hb2 x2 => ⟨_, _, _, rfl, ?_⟩)
  ((try (conv => cbv)); repeat (refine brk_ok hA ?_; (try (conv => cbv))))
  have hk : Ks h2 (some ⟨b', 0, none⟩) n (turnR l) := by
    have := Own.rows ho kr_len (by omega) hb2
    rw [turnR_len, hlen] at this
    exact this
  exact hQ _ _ _ _ _ k1 hk (x1.trans x2)

theorem rinverse_ok {h : AHeap} (hlow : h.low ≤ h.next) {a : Option Addr} {n c : Nat} {l : List Kr} (hl : Ks h a n l) (hi : allI64 l) {Q : Value → AHeap → Prop}
    (hQ : ∀ a' n' c' e h', CheckIs l e → Ks h' a' n' (invL l e) → Ext h h' → Q (.tuple #[.slice a' n' c', .int .i64 e]) h') : call 13 [.slice a n c] h Q := by
  have hlen := hl.len
  refine hA.bodyR Try.func13 r13_ok (hA.alike _ _ _ rfl) hlow ?_; (try (conv => cbv)); repeat (refine brk_ok hA ?_; (try (conv => cbv)))
  refine rqcheck_ok hA hlow hl hi (fun e1 h1 k1 x1 => ⟨_, rfl, ?_⟩)
  have l1 := x1.lowOK hlow
  ((try (conv => cbv)); repeat (refine brk_ok hA ?_; (try (conv => cbv))))
  refine br (e1 ≠ 0) (by rw [e_neq hA]) (fun c1 => ?_) (fun c1 => ?_) <;> (try (conv => cbv)) <;> repeat (refine brk_ok hA ?_; (try (conv => cbv)))
  · refine rqcheck_ok hA l1 (hl.ext x1) hi (fun e1' h1' k1' x1' => ⟨_, rfl, ?_⟩)
    obtain rfl := k1.uniq k1'
    ((try (conv => cbv)); repeat (refine brk_ok hA ?_; (try (conv => cbv))))
    exact hQ _ _ _ _ _ k1 (by unfold invL; rw [if_neg c1]; exact Rows.nil _ kr_len (by omega)) (x1.trans x1')
  obtain rfl : e1 = 0 := by omega
  have g : GoodL l := k1.good.1 rfl
  have g2 := g.most
  refine turned_ok hA l1 (hl.ext x1) hi (by omega) (fun a' c' h2 hk x2 => ⟨_, _, _, rfl, ?_⟩)
  ((try (conv => cbv)); repeat (refine brk_ok hA ?_; (try (conv => cbv))))
  exact hQ _ _ _ _ _ k1 hk (x1.trans x2)

end Go.Proofs.Ytnokkniofajnhaa
