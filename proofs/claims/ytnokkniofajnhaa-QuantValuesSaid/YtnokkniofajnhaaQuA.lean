/-
  Corrections: a point's value by the reference.
-/
import Derived.Test.YtnokkniofajnhaaQuC
namespace Go.Proofs.Ytnokkniofajnhaa
open Go.Sim
set_option linter.unusedVariables false
set_option maxRecDepth 100000

variable {F : Prims}
  {call : FuncId → List Value → AHeap → (Value → AHeap → Prop) → Prop}
  {head : FuncId → Nat → Nat → SS → (Exit → SS → Prop) → Prop}
  {arith : BinOp → IntKind → Int → Int → Int}
  {cmp : BinOp → Int → Int → Bool}
  {scmp : BinOp → ByteArray → ByteArray → Bool}
  {bnot : Bool → Bool}
  {bsame : Bool → Bool → Bool}
  {conv : IntKind → Int → Int}
  {neg : IntKind → Int → Int}
  {imax : Int → Int → Int}
  {imin : Int → Int → Int}
  {ofNat : Nat → Int}
  {slen : ByteArray → Int}
  {place : Nat → Int → Nat → Nat}
  {inR : Int → Nat → Prop}
  {nz : Int → Prop}
  {geZ : Int → Prop}
  {rd : AHeap → Nat → Nat → Nat → List Value → Prop}
  {wr : AHeap → Nat → Nat → List Value → AHeap → Prop}
  {push : AHeap → Nat → List Value → AHeap}
  {next : AHeap → Nat}
  {mkOK : Int → Int → Prop}
  {nat : Int → Nat}
  {zeros : List Value → Int → List Value}
  {sadd : ByteArray → ByteArray → (ByteArray → Prop) → Prop}
  {eqAgg : TypeId → Array Value → Array Value → (Bool → Prop) → Prop}
  {cut : Nat → Int → Prop}
  {slc : TypeId → Value → Option Value → Option Value → Option Value → (Option Addr → Nat → Nat → Prop) → Prop}
  {sslc : TypeId → ByteArray → Option Value → Option Value → (ByteArray → Prop) → Prop}
  {strAt : ByteArray → Int → (Int → Prop) → Prop}
  {part : TypeId → Array Value → Nat → Value → Prop}
  {app : List TypeId → List Value → AHeap → (Option Addr → Nat → Nat → AHeap → Prop) → Prop}
  {cpy : List TypeId → List Value → AHeap → (Int → AHeap → Prop) → Prop}
  {putAt : AHeap → Nat → Nat → List Value → AHeap}
  {fresh : AHeap → AHeap}
  {lowered : AHeap → AHeap → AHeap}
  {bump : AHeap → Nat → AHeap}
  {wrote : AHeap → AHeap → Bool}
  {addN : Nat → Nat → Nat}
  {lt : Nat → Nat → Prop}
  {ne : Nat → Nat → Prop}
  {fpAll : Bool → Bool → Bool → Nat → Nat → Prop}
  {brk : (Unit → Prop) → Prop}
  {yn : Nat → Nat}
  {rng : FuncId → Nat → SS → (Exit → SS → Prop) → Prop}
  {mget : TypeId → Value → Value → AHeap → Value → Bool → Prop}
  {mput : TypeId → Value → Value → Value → AHeap → AHeap → Prop}
  {mnew : AHeap → AHeap}
  {bytes : TypeId → TypeId → Option Addr → Nat → AHeap → ByteArray → Prop}
  {clr : List TypeId → List Value → AHeap → AHeap → Prop}
  (hA : AP F ⟨call, head, arith, cmp, scmp, bnot, bsame, conv, neg, imax, imin, ofNat, slen, place, inR, nz, geZ, rd, wr, push, next, mkOK, nat, zeros, sadd, eqAgg, cut, slc, sslc, strAt, part, app, cpy, putAt, fresh, lowered, bump, wrote, addN, lt, ne, fpAll, brk, yn, rng, mget, mput, mnew, bytes, clr⟩)
include hA

theorem line_ok {h : AHeap} (hlow : h.low ≤ h.next) {t : List Kn} (cc : Corr t) {k k' : Int} (hk : k' = k - 1) (k0 : 1 ≤ k) (k1 : k < t.length) {x : Rat} (hb : bnd x 10000 10000) {a1 a2 a3 a4 b1 b2 b3 b4 xn xd : Int} (ia1 : isF a1 a2 (kx t k)) (ia2 : isF a3 a4 (ky t k)) (ib1 : isF b1 b2 (kx t k')) (ib2 : isF b3 b4 (ky t k')) (hx : isF xn xd x) {Q : Value → AHeap → Prop}
    (hQ : ∀ u v h', isF u v (lineQ t k x) → Ext h h' → Q (.agg #[.int .i64 u, .int .i64 v]) h') : call 59 [.agg #[.int .i64 b1, .int .i64 b2, .int .i64 b3, .int .i64 b4], .agg #[.int .i64 a1, .int .i64 a2, .int .i64 a3, .int .i64 a4], .agg #[.int .i64 xn, .int .i64 xd]] h Q := by
  obtain ⟨f1, f2, f3, f4, f5, f6, f7⟩ := mean_bnd cc k0 k1 hb
  have f8 := (line_bnd cc k0 k1 hb).2.2.2.2.2
  have mean := line_mean cc k0 k1 x
  have inc := (cc.incr k (by omega) k1).1
  rw [← hk] at f2 f3 f4 f5 f6 f7 mean inc
  rw [← mean] at f8
  have ne : kx t k - kx t k' ≠ 0 := by grind
  have e9 := Ext.refl h
  have l9 := hlow
  refine hA.bodyR Try.func59 r59_ok (hA.alike _ _ _ rfl) hlow ?_; (try (conv => cbv)); repeat (refine brk_ok hA ?_; (try (conv => cbv)))
  refine rsub_ok hA l9 ia1.i64n ia1.i64d hx.i64n hx.i64d (fun _ _ _ ho h10 x10 => ⟨_, _, _, rfl, ?_⟩)
  obtain ⟨is1, rfl⟩ := opIs_of ia1 hx (f1.fits (by omega) (by omega)) ho
  have e10 := e9.trans x10
  have l10 := e10.lowOK hlow
  ((try (conv => cbv)); repeat (refine brk_ok hA ?_; (try (conv => cbv))))
  refine rsub_ok hA l10 hx.i64n hx.i64d ib1.i64n ib1.i64d (fun _ _ _ ho h11 x11 => ⟨_, _, _, rfl, ?_⟩)
  obtain ⟨is2, rfl⟩ := opIs_of hx ib1 (f2.fits (by omega) (by omega)) ho
  have e11 := e10.trans x11
  have l11 := e11.lowOK hlow
  ((try (conv => cbv)); repeat (refine brk_ok hA ?_; (try (conv => cbv))))
  refine rsub_ok hA l11 ia1.i64n ia1.i64d ib1.i64n ib1.i64d (fun _ _ _ ho h12 x12 => ⟨_, _, _, rfl, ?_⟩)
  obtain ⟨is3, rfl⟩ := opIs_of ia1 ib1 (f3.fits (by omega) (by omega)) ho
  have e12 := e11.trans x12
  have l12 := e12.lowOK hlow
  ((try (conv => cbv)); repeat (refine brk_ok hA ?_; (try (conv => cbv))))
  refine rdiv_ok hA l12 is1.i64n is1.i64d is3.i64n is3.i64d (fun _ _ _ ho h13 x13 => ⟨_, _, _, rfl, ?_⟩)
  obtain ⟨is4, rfl⟩ := divIs_of is1 is3 ne (f4.fits (by omega) (by omega)) ho
  have e13 := e12.trans x13
  have l13 := e13.lowOK hlow
  ((try (conv => cbv)); repeat (refine brk_ok hA ?_; (try (conv => cbv))))
  refine rdiv_ok hA l13 is2.i64n is2.i64d is3.i64n is3.i64d (fun _ _ _ ho h14 x14 => ⟨_, _, _, rfl, ?_⟩)
  obtain ⟨is5, rfl⟩ := divIs_of is2 is3 ne (f5.fits (by omega) (by omega)) ho
  have e14 := e13.trans x14
  have l14 := e14.lowOK hlow
  ((try (conv => cbv)); repeat (refine brk_ok hA ?_; (try (conv => cbv))))
  refine rmul_ok hA l14 is4.i64n is4.i64d ib2.i64n ib2.i64d (fun _ _ _ ho h15 x15 => ⟨_, _, _, rfl, ?_⟩)
  obtain ⟨is6, rfl⟩ := opIs_of is4 ib2 (f6.fits (by omega) (by omega)) ho
  have e15 := e14.trans x15
  have l15 := e15.lowOK hlow
  ((try (conv => cbv)); repeat (refine brk_ok hA ?_; (try (conv => cbv))))
  refine rmul_ok hA l15 is5.i64n is5.i64d ia2.i64n ia2.i64d (fun _ _ _ ho h16 x16 => ⟨_, _, _, rfl, ?_⟩)
  obtain ⟨is7, rfl⟩ := opIs_of is5 ia2 (f7.fits (by omega) (by omega)) ho
  have e16 := e15.trans x16
  have l16 := e16.lowOK hlow
  ((try (conv => cbv)); repeat (refine brk_ok hA ?_; (try (conv => cbv))))
  refine radd_ok hA l16 is6.i64n is6.i64d is7.i64n is7.i64d (fun _ _ _ ho h17 x17 => ⟨_, _, _, rfl, ?_⟩)
  obtain ⟨is8, rfl⟩ := opIs_of is6 is7 (f8.fits (by omega) (by omega)) ho
  have e17 := e16.trans x17
  have l17 := e17.lowOK hlow
  ((try (conv => cbv)); repeat (refine brk_ok hA ?_; (try (conv => cbv))))
  rw [mean] at is8
  exact hQ _ _ _ is8 e17

theorem at_loop {h0 : AHeap} (hlow : h0.low ≤ h0.next) {b o n c : Nat} {l : List Kr} (hl : Ks h0 (some ⟨b, o, none⟩) n l) (hi : allI64 l) (g : GoodL l) {xn xd : Int} {x : Rat} (hx : isF xn xd x) (hb : bnd x 10000 10000) (d0 : kx (toK l) 0 ≤ x) {Q : Exit → SS → Prop}
    (hQ : ∀ (u v : Int) (q : Rat) h', isF u v q → ValQ (toK l) x q → Ext h0 h' → ∀ w : Nat → Value, Q .ret ⟨[(32, w 0), (31, w 1), (30, w 2), (29, w 3), (28, w 4), (27, w 5), (26, w 6), (25, w 7), (24, w 8), (23, w 9), (22, w 10), (0, w 11), (3, w 12), (4, .pointer (some ⟨1, 0, some 0⟩)), (5, w 14)], 23, [(1, [.int .i64 u, .int .i64 v]), (0, [.int .i64 xn, .int .i64 xd]), (1, [.int .i64 0, .int .i64 0])], h'⟩) :
    ∀ (m : Nat) (k : Int) (h : AHeap), k.toNat ≤ m → 1 ≤ k → k < n → x ≤ kx (toK l) k → Ext h0 h → head 36 2 2 ⟨[(0, .slice (some ⟨b, o, none⟩) n c), (3, .pointer (some ⟨0, 0, some 0⟩)), (4, .pointer (some ⟨1, 0, some 0⟩)), (5, .int .i64 k)], 2, [(0, [.int .i64 xn, .int .i64 xd]), (1, [.int .i64 0, .int .i64 0])], h⟩ Q := by
  have hlen := hl.len
  have g2 := g.most
  have cc := g.corr
  intro m
  induction m with
  | zero => intro k h hm k1 k2 kx1 he; omega
  | succ m ih =>
    intro k h hm k1 k2 kx1 he
    have ek : arith .sub .i64 k 1 = k - 1 := sub64 hA (by omega) (by omega)
    obtain ⟨k', hk'⟩ : ∃ z, z = k - 1 := ⟨_, rfl⟩
    rw [← hk'] at ek
    obtain ⟨h9, hh9⟩ : ∃ z, z = bump h 9 := ⟨_, rfl⟩
    have e9 : Ext h0 h9 := by rw [hh9]; exact he.trans (ext_bump hA _ _)
    have l9 := e9.lowOK hlow
    obtain ⟨_, b1, b2, b3, b4, hg1, _, _, _, _, _, r1, _⟩ := ks_in (hl.ext e9) hi (i := k') (by omega) (by omega)
    obtain ⟨ib1, ib2⟩ := g.is (i := k') (by omega) (by omega)
    obtain ⟨ia1, ia2⟩ := g.is (i := k) (by omega) (by omega)
    rw [hg1] at ib1 ib2
    replace ib1 : isF b1 b2 _ := ib1
    replace ib2 : isF b3 b4 _ := ib2
    have r2 := rd_fld hA r1
    refine hA.roundR Try.func36 r36_ok ?_; (try (conv => cbv)); repeat (refine brk_ok hA ?_; (try (conv => cbv)))
    refine br (0 < k) (by rw [e_gtr hA]) (fun _ => ?_) (fun q => absurd (show 0 < k by omega) q) <;> (try (conv => cbv)) <;> repeat (refine brk_ok hA ?_; (try (conv => cbv)))
    rw [ek, ← hh9]
    ((try (conv => cbv)); repeat ((first | refine brk_ok hA ?_ | refine ⟨in_ok hA (by omega) (by omega), ?_⟩ | refine ⟨_, _, rfl, in_ok hA (by omega) (by omega), ?_⟩ | refine ⟨nz_ok hA (by omega), ?_⟩ | refine ⟨geZ_ok hA (by omega), ?_⟩ | refine ⟨ne_ok hA (by omega), ?_⟩ | refine ⟨wrote_no hA (by assumption), ?_⟩ | refine ⟨wrote_no hA (.refl _), ?_⟩ | refine ⟨_, ‹rd _ _ _ _ _›, ?_⟩ | refine ⟨_, _, ‹rd _ _ _ _ _›, ?_⟩ | refine ⟨_, _, _, _, ‹rd _ _ _ _ _›, ?_⟩ | refine ⟨_, ‹wr _ _ _ _ _›, ?_⟩); (try (conv => cbv))))
    refine qless_ok hA (low_fresh hA h9) hx ib1 (fun r h10 hr x10 => ⟨_, rfl, ?_⟩)
    ((try (conv => cbv)); repeat (refine brk_ok hA ?_; (try (conv => cbv))))
    obtain ⟨h11, hh11⟩ : ∃ z, z = lowered h9 h10 := ⟨_, rfl⟩
    have e11 : Ext h0 h11 := by rw [hh11]; exact ext_low hA hlow e9 x10
    rw [← hh11]
    refine br (r = false) (by rw [e_bnot hA]; cases r <;> rfl) (fun c2 => ?_) (fun c2 => ?_) <;> (try (conv => cbv)) <;> repeat (refine brk_ok hA ?_; (try (conv => cbv)))
    · have hkx : kx (toK l) k' ≤ x := Rat.not_lt.1 (fun q => by have := hr.2 q; rw [c2] at this; cases this)
      obtain ⟨h12, hh12⟩ : ∃ z, z = bump h11 12 := ⟨_, rfl⟩
      have e12 : Ext h0 h12 := by rw [hh12]; exact e11.trans (ext_bump hA _ _)
      have l12 := e12.lowOK hlow
      obtain ⟨_, c1, c2, c3, c4, hg3, _, _, _, _, q1, _, _⟩ := ks_in (hl.ext e12) hi (i := k') (by omega) (by omega)
      obtain ⟨_, a1, a2, a3, a4, hg2, _, _, _, _, q2, _, _⟩ := ks_in (hl.ext e12) hi (i := k) (by omega) (by omega)
      rw [hg2] at ia1 ia2
      replace ia1 : isF a1 a2 _ := ia1
      replace ia2 : isF a3 a4 _ := ia2
      rw [hg1] at hg3
      cases hg3
      have q3 := rd_ok hA q1
      have q4 := rd_ok hA q2
      rw [ek, ← hh12]
      ((try (conv => cbv)); repeat ((first | refine brk_ok hA ?_ | refine ⟨in_ok hA (by omega) (by omega), ?_⟩ | refine ⟨_, _, rfl, in_ok hA (by omega) (by omega), ?_⟩ | refine ⟨nz_ok hA (by omega), ?_⟩ | refine ⟨geZ_ok hA (by omega), ?_⟩ | refine ⟨ne_ok hA (by omega), ?_⟩ | refine ⟨wrote_no hA (by assumption), ?_⟩ | refine ⟨wrote_no hA (.refl _), ?_⟩ | refine ⟨_, ‹rd _ _ _ _ _›, ?_⟩ | refine ⟨_, _, ‹rd _ _ _ _ _›, ?_⟩ | refine ⟨_, _, _, _, ‹rd _ _ _ _ _›, ?_⟩ | refine ⟨_, ‹wr _ _ _ _ _›, ?_⟩); (try (conv => cbv))))
      refine line_ok hA (low_fresh hA h12) cc hk' k1 (by rw [toK_len]; omega) hb ia1 ia2 ib1 ib2 hx (fun u v h13 hv x13 => ⟨_, _, rfl, ?_⟩)
      ((try (conv => cbv)); repeat ((first | refine brk_ok hA ?_ | refine ⟨in_ok hA (by omega) (by omega), ?_⟩ | refine ⟨_, _, rfl, in_ok hA (by omega) (by omega), ?_⟩ | refine ⟨nz_ok hA (by omega), ?_⟩ | refine ⟨geZ_ok hA (by omega), ?_⟩ | refine ⟨ne_ok hA (by omega), ?_⟩ | refine ⟨wrote_no hA (by assumption), ?_⟩ | refine ⟨wrote_no hA (.refl _), ?_⟩ | refine ⟨_, ‹rd _ _ _ _ _›, ?_⟩ | refine ⟨_, _, ‹rd _ _ _ _ _›, ?_⟩ | refine ⟨_, _, _, _, ‹rd _ _ _ _ _›, ?_⟩ | refine ⟨_, ‹wr _ _ _ _ _›, ?_⟩); (try (conv => cbv))))
      have := hQ u v _ _ hv ⟨k, k1, by rw [toK_len]; omega, by rw [← hk']; exact hkx, kx1, rfl⟩ (ext_low hA hlow e12 x13)
      exact this fun i => ([.agg #[.int .i64 u, .int .i64 v], .agg #[.int .i64 xn, .int .i64 xd], .agg #[.int .i64 a1, .int .i64 a2, .int .i64 a3, .int .i64 a4], .pointer (some ⟨b, place o k 4, none⟩), .int .i64 k, .slice (some ⟨b, o, none⟩) n c, .agg #[.int .i64 b1, .int .i64 b2, .int .i64 b3, .int .i64 b4], .pointer (some ⟨b, place o k' 4, none⟩), .int .i64 k', .int .i64 k, .slice (some ⟨b, o, none⟩) n c, .slice (some ⟨b, o, none⟩) n c, .pointer (some ⟨0, 0, some 0⟩), .bool true, .int .i64 k] : List Value).getD i (.bool true)
    · have hkx : x < kx (toK l) k' := hr.1 (by cases r with | true => rfl | false => exact absurd rfl c2)
      by_cases z : k' = 0
      · rw [z] at hkx; exact absurd hkx (Rat.not_lt.2 d0)
      rw [ek]
      exact ih k' h11 (by omega) (by omega) (by omega) (Rat.le_of_lt hkx) e11

theorem at_ok {h : AHeap} (hlow : h.low ≤ h.next) {a : Option Addr} {n c : Nat} {l : List Kr} (hl : Ks h a n l) (hi : allI64 l) (g : GoodL l) {xn xd : Int} {x : Rat} (hx : isF xn xd x) (hb : bnd x 10000 10000) (d0 : kx (toK l) 0 ≤ x) (d1 : x ≤ kx (toK l) (n - 1)) {Q : Value → AHeap → Prop}
    (hQ : ∀ u v q h', isF u v q → ValQ (toK l) x q → Ext h h' → Q (.agg #[.int .i64 u, .int .i64 v]) h') : call 36 [.slice a n c, .agg #[.int .i64 xn, .int .i64 xd]] h Q := by
  have hlen := hl.len
  have g1 := g.two
  have g2 := g.most
  obtain ⟨b, o, rfl⟩ := ks_some hl (by omega)
  obtain ⟨nn, hnn⟩ : ∃ z : Int, z = n - 1 := ⟨_, rfl⟩
  have e1 : arith .sub .i64 (ofNat n) 1 = nn := by rw [e_ofNat hA, hnn]; exact sub64 hA (by omega) (by omega)
  rw [← hnn] at d1
  refine hA.bodyR Try.func36 r36_ok (hA.alike _ _ _ rfl) hlow ?_; (try (conv => cbv)); repeat (refine brk_ok hA ?_; (try (conv => cbv)))
  rw [e1]
  refine at_loop hA hlow hl hi g hx hb d0 (fun u v q h' hu hv x' w => ?_) n nn h (by omega) (by omega) (by omega) d1 (.refl h)
  ((try (conv => cbv)); repeat (refine brk_ok hA ?_; (try (conv => cbv))))
  exact hQ u v q h' hu hv x'

end Go.Proofs.Ytnokkniofajnhaa
