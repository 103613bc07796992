/-
  Corrections: a point's value, by the program and by the reference.
-/
import Derived.Test.YtnokkniofajnhaaQuD
import Derived.Test.YtnokkniofajnhaaFracZc
namespace Go.Proofs.Ytnokkniofajnhaa
open Go.Sim
set_option linter.unusedVariables false
set_option maxRecDepth 100000

def toK (l : List Kr) : List Kn := l.map fun k => (rq k.xn k.xd, rq k.yn k.yd)
theorem toK_len (l : List Kr) : (toK l).length = l.length := by unfold toK; simp
theorem toK_at {l : List Kr} {i : Int} (h0 : 0 ≤ i) (h1 : i < l.length) : kx (toK l) i = rq (gt l i).xn (gt l i).xd ∧ ky (toK l) i = rq (gt l i).yn (gt l i).yd := by
  unfold kx ky toK gt
  rw [List.getD, List.getD, List.getElem?_map, List.getElem?_eq_getElem (by omega)]
  exact ⟨rfl, rfl⟩
/-- A correction as it lies in memory. -/
structure GoodL (l : List Kr) : Prop where
  two : 2 ≤ l.length
  most : l.length ≤ 40
  small : ∀ i : Int, 0 ≤ i → i < l.length → smallF 100 (gt l i).xn (gt l i).xd ∧ smallF 100 (gt l i).yn (gt l i).yd
  incr : ∀ i : Int, 0 < i → i < l.length → kx (toK l) (i - 1) < kx (toK l) i ∧ ky (toK l) (i - 1) < ky (toK l) i
theorem smallF.bnd {m : Nat} {n d : Int} (h : smallF m n d) : bnd (rq n d) m m := by
  obtain ⟨h1, h2, h3, h4⟩ := h
  obtain ⟨e1, e2, _⟩ := h1.is
  unfold Proofs.Ytnokkniofajnhaa.bnd
  omega
theorem GoodL.corr {l : List Kr} (g : GoodL l) : Corr (toK l) := by
  refine ⟨by rw [toK_len]; exact g.two, by rw [toK_len]; exact g.most, fun i i0 i1 => ?_, fun i i0 i1 => g.incr i i0 (by rw [toK_len] at i1; exact i1)⟩
  rw [toK_len] at i1
  obtain ⟨e1, e2⟩ := toK_at i0 i1
  obtain ⟨s1, s2⟩ := g.small i i0 i1
  rw [e1, e2]
  exact ⟨s1.bnd, s2.bnd⟩
theorem GoodL.is {l : List Kr} (g : GoodL l) {i : Int} (i0 : 0 ≤ i) (i1 : i < l.length) : isF (gt l i).xn (gt l i).xd (kx (toK l) i) ∧ isF (gt l i).yn (gt l i).yd (ky (toK l) i) := by
  obtain ⟨e1, e2⟩ := toK_at i0 i1
  obtain ⟨s1, s2⟩ := g.small i i0 i1
  rw [e1, e2]
  exact ⟨s1.1.is, s2.1.is⟩
theorem opIs_of {f : Rat → Rat → Rat} {n d m e a b r : Int} {p q : Rat} (hp : isF n d p) (hq : isF m e q) (hf : fits (f p q)) (k : OpIs f n d m e a b r) : isF a b (f p q) ∧ r = 0 := by
  rcases k with ⟨w, _⟩ | ⟨p', q', hp', hq', k⟩
  · exact absurd ⟨⟨p, hp⟩, ⟨q, hq⟩⟩ w
  · obtain rfl := hp.uniq hp'
    obtain rfl := hq.uniq hq'
    rcases k with ⟨_, rfl, rfl, rfl⟩ | ⟨w, _⟩
    · exact ⟨⟨rfl, rfl, hf⟩, rfl⟩
    · exact absurd hf w
theorem divIs_of {n d m e a b r : Int} {p q : Rat} (hp : isF n d p) (hq : isF m e q) (h0 : q ≠ 0) (hf : fits (p / q)) (k : DivIs n d m e a b r) : isF a b (p / q) ∧ r = 0 := by
  have hm : m ≠ 0 := fun w => h0 (Rat.num_eq_zero.1 (by rw [← hq.1, w]))
  rcases k with ⟨w, _⟩ | ⟨_, _, w, _⟩ | ⟨p', q', hp', hq', _, k⟩
  · exact absurd ⟨⟨p, hp⟩, ⟨q, hq⟩⟩ w
  · exact absurd w hm
  · obtain rfl := hp.uniq hp'
    obtain rfl := hq.uniq hq'
    rcases k with ⟨_, rfl, rfl, rfl⟩ | ⟨w, _⟩
    · exact ⟨⟨rfl, rfl, hf⟩, rfl⟩
    · exact absurd hf w

variable {F : Prims}
  {call : FuncId → List Value → AHeap → (Value → AHeap → Prop) → Prop}
  {head : FuncId → Nat → Nat → SS → (Exit → SS → Prop) → Prop}
  {arith : BinOp → IntKind → Int → Int → Int}
  {cmp : BinOp → Int → Int → Bool}
  {scmp : BinOp → ByteArray → ByteArray → Bool}
  {bnot : Bool → Bool}
  {bsame : Bool → Bool → Bool}
  {conv : IntKind → Int → Int}
  {neg : IntKind → Int → Int}
  {imax : Int → Int → Int}
  {imin : Int → Int → Int}
  {ofNat : Nat → Int}
  {slen : ByteArray → Int}
  {place : Nat → Int → Nat → Nat}
  {inR : Int → Nat → Prop}
  {nz : Int → Prop}
  {geZ : Int → Prop}
  {rd : AHeap → Nat → Nat → Nat → List Value → Prop}
  {wr : AHeap → Nat → Nat → List Value → AHeap → Prop}
  {push : AHeap → Nat → List Value → AHeap}
  {next : AHeap → Nat}
  {mkOK : Int → Int → Prop}
  {nat : Int → Nat}
  {zeros : List Value → Int → List Value}
  {sadd : ByteArray → ByteArray → (ByteArray → Prop) → Prop}
  {eqAgg : TypeId → Array Value → Array Value → (Bool → Prop) → Prop}
  {cut : Nat → Int → Prop}
  {slc : TypeId → Value → Option Value → Option Value → Option Value → (Option Addr → Nat → Nat → Prop) → Prop}
  {sslc : TypeId → ByteArray → Option Value → Option Value → (ByteArray → Prop) → Prop}
  {strAt : ByteArray → Int → (Int → Prop) → Prop}
  {part : TypeId → Array Value → Nat → Value → Prop}
  {app : List TypeId → List Value → AHeap → (Option Addr → Nat → Nat → AHeap → Prop) → Prop}
  {cpy : List TypeId → List Value → AHeap → (Int → AHeap → Prop) → Prop}
  {putAt : AHeap → Nat → Nat → List Value → AHeap}
  {fresh : AHeap → AHeap}
  {lowered : AHeap → AHeap → AHeap}
  {bump : AHeap → Nat → AHeap}
  {wrote : AHeap → AHeap → Bool}
  {addN : Nat → Nat → Nat}
  {lt : Nat → Nat → Prop}
  {ne : Nat → Nat → Prop}
  {fpAll : Bool → Bool → Bool → Nat → Nat → Prop}
  {brk : (Unit → Prop) → Prop}
  {yn : Nat → Nat}
  {rng : FuncId → Nat → SS → (Exit → SS → Prop) → Prop}
  {mget : TypeId → Value → Value → AHeap → Value → Bool → Prop}
  {mput : TypeId → Value → Value → Value → AHeap → AHeap → Prop}
  {mnew : AHeap → AHeap}
  {bytes : TypeId → TypeId → Option Addr → Nat → AHeap → ByteArray → Prop}
  {clr : List TypeId → List Value → AHeap → AHeap → Prop}
  (hA : AP F ⟨call, head, arith, cmp, scmp, bnot, bsame, conv, neg, imax, imin, ofNat, slen, place, inR, nz, geZ, rd, wr, push, next, mkOK, nat, zeros, sadd, eqAgg, cut, slc, sslc, strAt, part, app, cpy, putAt, fresh, lowered, bump, wrote, addN, lt, ne, fpAll, brk, yn, rng, mget, mput, mnew, bytes, clr⟩)
include hA

theorem cor_loop {h0 : AHeap} (hlow : h0.low ≤ h0.next) {b o n c : Nat} {l : List Kr} (hl : Ks h0 (some ⟨b, o, none⟩) n l) (hi : allI64 l) (g : GoodL l) {xn xd : Int} {x : Rat} (hx : isF xn xd x) (d1 : x ≤ kx (toK l) (n - 1)) {K0 : List Value} {Q : Exit → SS → Prop}
    (hQ : ∀ (k : Int) h', 1 ≤ k → k < n → kx (toK l) (k - 1) ≤ x → x ≤ kx (toK l) k → Ext h0 h' → Q (.exit 0) ⟨[(0, .slice (some ⟨b, o, none⟩) n c), (3, .pointer (some ⟨0, 0, some 0⟩)), (4, .pointer (some ⟨1, 0, some 0⟩)), (6, .int .i64 k)], 17, [(0, [.int .i64 xn, .int .i64 xd]), (1, K0)], h'⟩) :
    ∀ (m : Nat) (k : Int) (h : AHeap), (n - k).toNat ≤ m → 1 ≤ k → k < n → kx (toK l) (k - 1) ≤ x → Ext h0 h → head 35 2 2 ⟨[(0, .slice (some ⟨b, o, none⟩) n c), (3, .pointer (some ⟨0, 0, some 0⟩)), (4, .pointer (some ⟨1, 0, some 0⟩)), (6, .int .i64 k)], 2, [(0, [.int .i64 xn, .int .i64 xd]), (1, K0)], h⟩ Q := by
  have hlen := hl.len
  have g2 := g.most
  intro m
  induction m with
  | zero =>
    intro k h hm k1 k2 kx1 he
    omega
  | succ m ih =>
    intro k h hm k1 k2 kx1 he
    obtain ⟨nn, hnn⟩ : ∃ z : Int, z = n - 1 := ⟨_, rfl⟩
    have e1 : arith .sub .i64 (ofNat n) 1 = nn := by rw [e_ofNat hA, hnn]; exact sub64 hA (by omega) (by omega)
    obtain ⟨h9, hh9⟩ : ∃ z, z = bump h 15 := ⟨_, rfl⟩
    have e9 : Ext h0 h9 := by rw [hh9]; exact he.trans (ext_bump hA _ _)
    have l9 := e9.lowOK hlow
    obtain ⟨hbb, u, v, z, w, hg, _, _, _, _, _, r1, _⟩ := ks_in (hl.ext e9) hi (i := k) (by omega) k2
    obtain ⟨kk, _⟩ := g.is (i := k) (by omega) (by omega)
    rw [hg] at kk
    replace kk : isF u v _ := kk
    refine hA.roundR Try.func35 r35_ok ?_; (try (conv => cbv)); repeat (refine brk_ok hA ?_; (try (conv => cbv)))
    rw [e1, ← hh9]
    refine br (k < nn) (by rw [e_lss hA]) (fun c1 => ?_) (fun c1 => ?_) <;> (try (conv => cbv)) <;> repeat (refine brk_ok hA ?_; (try (conv => cbv)))
    rotate_left
    · exact hQ k h9 k1 k2 kx1 (by rw [show k = n - 1 by omega]; exact d1) e9
    have r2 := rd_fld hA r1
    ((try (conv => cbv)); repeat ((first | refine brk_ok hA ?_ | refine ⟨in_ok hA (by omega) (by omega), ?_⟩ | refine ⟨_, _, rfl, in_ok hA (by omega) (by omega), ?_⟩ | refine ⟨nz_ok hA (by omega), ?_⟩ | refine ⟨geZ_ok hA (by omega), ?_⟩ | refine ⟨ne_ok hA (by omega), ?_⟩ | refine ⟨wrote_no hA (by assumption), ?_⟩ | refine ⟨wrote_no hA (.refl _), ?_⟩ | refine ⟨_, ‹rd _ _ _ _ _›, ?_⟩ | refine ⟨_, _, ‹rd _ _ _ _ _›, ?_⟩ | refine ⟨_, _, _, _, ‹rd _ _ _ _ _›, ?_⟩ | refine ⟨_, ‹wr _ _ _ _ _›, ?_⟩); (try (conv => cbv))))
    refine qorder_ok hA (low_fresh hA h9) hx kk (fun r h10 hr x10 => ⟨_, rfl, ?_⟩)
    ((try (conv => cbv)); repeat (refine brk_ok hA ?_; (try (conv => cbv))))
    obtain ⟨h11, hh11⟩ : ∃ z, z = lowered h9 h10 := ⟨_, rfl⟩
    have e11 : Ext h0 h11 := by rw [hh11]; exact ext_low hA hlow e9 x10
    rw [← hh11]
    refine br (0 < r) (by rw [e_gtr hA]) (fun c2 => ?_) (fun c2 => ?_) <;> (try (conv => cbv)) <;> repeat (refine brk_ok hA ?_; (try (conv => cbv)))
    · rw [add64 hA (by omega) (by omega)]
      rw [hr] at c2
      exact ih (k + 1) h11 (by omega) (by omega) (by omega) (by rw [show k + 1 - 1 = k by omega]; exact Rat.le_of_lt (cmpF_gt.1 c2)) e11
    · refine hQ k h11 k1 k2 kx1 ?_ e11
      rw [hr] at c2
      exact Rat.not_lt.1 (fun q => c2 (cmpF_gt.2 q))

theorem corrected_ok {h : AHeap} (hlow : h.low ≤ h.next) {a : Option Addr} {n c : Nat} {l : List Kr} (hl : Ks h a n l) (hi : allI64 l) (g : GoodL l) {xn xd : Int} {x : Rat} (hx : isF xn xd x) (hb : bnd x 10000 10000) (d0 : kx (toK l) 0 ≤ x) (d1 : x ≤ kx (toK l) (n - 1)) {Q : Value → AHeap → Prop}
    (hQ : ∀ u v q h', isF u v q → ValQ (toK l) x q → bnd q 60000000000000000 20000000000000000 → Ext h h' → Q (.tuple #[.agg #[.int .i64 u, .int .i64 v], .int .i64 0]) h') : call 35 [.slice a n c, .agg #[.int .i64 xn, .int .i64 xd]] h Q := by
  have hlen := hl.len
  have g1 := g.two
  have g2 := g.most
  obtain ⟨b, o, rfl⟩ := ks_some hl (by omega)
  refine hA.bodyR Try.func35 r35_ok (hA.alike _ _ _ rfl) hlow ?_; (try (conv => cbv)); repeat (refine brk_ok hA ?_; (try (conv => cbv)))
  refine cor_loop hA hlow hl hi g hx d1 (fun k h1 k1 k2 m1 m2 x1 => ?_) n 1 h (by omega) (by omega) (by omega) d0 (.refl h)
  ((try (conv => cbv)); repeat (refine brk_ok hA ?_; (try (conv => cbv))))
  have ek : arith .sub .i64 k 1 = k - 1 := sub64 hA (by omega) (by omega)
  obtain ⟨k', hk'⟩ : ∃ z, z = k - 1 := ⟨_, rfl⟩
  rw [← hk'] at ek m1
  obtain ⟨h9, hh9⟩ : ∃ z, z = bump h1 13 := ⟨_, rfl⟩
  have e9 : Ext h h9 := by rw [hh9]; exact x1.trans (ext_bump hA _ _)
  have l9 := e9.lowOK hlow
  obtain ⟨_, b1, b2, b3, b4, hg1, _, _, _, _, r1, _, _⟩ := ks_in (hl.ext e9) hi (i := k') (by omega) (by omega)
  obtain ⟨_, a1, a2, a3, a4, hg2, _, _, _, _, r2, _, _⟩ := ks_in (hl.ext e9) hi (i := k) (by omega) (by omega)
  obtain ⟨ib1, ib2⟩ := g.is (i := k') (by omega) (by omega)
  obtain ⟨ia1, ia2⟩ := g.is (i := k) (by omega) (by omega)
  rw [hg1] at ib1 ib2
  rw [hg2] at ia1 ia2
  replace ib1 : isF b1 b2 _ := ib1
  replace ib2 : isF b3 b4 _ := ib2
  replace ia1 : isF a1 a2 _ := ia1
  replace ia2 : isF a3 a4 _ := ia2
  have cc := g.corr
  obtain ⟨f1, f2, f3, f4, f5, f6⟩ := line_bnd cc (i := k) (by omega) (by rw [toK_len]; omega) hb
  have inc := (g.incr k (by omega) (by omega)).1
  rw [← hk'] at f1 f2 f3 f4 f5 inc
  have hv : ValQ (toK l) x (lineQ (toK l) k x) := ⟨k, k1, by rw [toK_len]; omega, by rw [← hk']; exact m1, m2, rfl⟩
  rw [ek, ← hh9]
  have r3 := rd_ok hA r1
  have r4 := rd_ok hA r2
  ((try (conv => cbv)); repeat ((first | refine brk_ok hA ?_ | refine ⟨in_ok hA (by omega) (by omega), ?_⟩ | refine ⟨_, _, rfl, in_ok hA (by omega) (by omega), ?_⟩ | refine ⟨nz_ok hA (by omega), ?_⟩ | refine ⟨geZ_ok hA (by omega), ?_⟩ | refine ⟨ne_ok hA (by omega), ?_⟩ | refine ⟨wrote_no hA (by assumption), ?_⟩ | refine ⟨wrote_no hA (.refl _), ?_⟩ | refine ⟨_, ‹rd _ _ _ _ _›, ?_⟩ | refine ⟨_, _, ‹rd _ _ _ _ _›, ?_⟩ | refine ⟨_, _, _, _, ‹rd _ _ _ _ _›, ?_⟩ | refine ⟨_, ‹wr _ _ _ _ _›, ?_⟩); (try (conv => cbv))))
  refine fsub_ok hA l9 ia2.i64n ia2.i64d ib2.i64n ib2.i64d (fun _ _ _ ho h10 x10 => ⟨_, _, _, rfl, ?_⟩)
  obtain ⟨is1, rfl⟩ := opIs_of ia2 ib2 (f1.fits (by omega) (by omega)) ho
  have e10 := e9.trans x10
  have l10 := e10.lowOK hlow
  ((try (conv => cbv)); repeat (refine brk_ok hA ?_; (try (conv => cbv))))
  refine br (False) (by rw [e_neq hA]; rfl) (fun q => q.elim) (fun _ => ?_) <;> (try (conv => cbv)) <;> repeat (refine brk_ok hA ?_; (try (conv => cbv)))
  refine fsub_ok hA l10 hx.i64n hx.i64d ib1.i64n ib1.i64d (fun _ _ _ ho h11 x11 => ⟨_, _, _, rfl, ?_⟩)
  obtain ⟨is2, rfl⟩ := opIs_of hx ib1 (f2.fits (by omega) (by omega)) ho
  have e11 := e10.trans x11
  have l11 := e11.lowOK hlow
  ((try (conv => cbv)); repeat (refine brk_ok hA ?_; (try (conv => cbv))))
  refine br (False) (by rw [e_neq hA]; rfl) (fun q => q.elim) (fun _ => ?_) <;> (try (conv => cbv)) <;> repeat (refine brk_ok hA ?_; (try (conv => cbv)))
  refine fsub_ok hA l11 ia1.i64n ia1.i64d ib1.i64n ib1.i64d (fun _ _ _ ho h12 x12 => ⟨_, _, _, rfl, ?_⟩)
  obtain ⟨is3, rfl⟩ := opIs_of ia1 ib1 (f3.fits (by omega) (by omega)) ho
  have e12 := e11.trans x12
  have l12 := e12.lowOK hlow
  ((try (conv => cbv)); repeat (refine brk_ok hA ?_; (try (conv => cbv))))
  refine br (False) (by rw [e_neq hA]; rfl) (fun q => q.elim) (fun _ => ?_) <;> (try (conv => cbv)) <;> repeat (refine brk_ok hA ?_; (try (conv => cbv)))
  refine mul_ok hA l12 is1.i64n is1.i64d is2.i64n is2.i64d (fun _ _ _ ho h13 x13 => ⟨_, _, _, rfl, ?_⟩)
  obtain ⟨is4, rfl⟩ := opIs_of is1 is2 (f4.fits (by omega) (by omega)) ho
  have e13 := e12.trans x13
  have l13 := e13.lowOK hlow
  ((try (conv => cbv)); repeat (refine brk_ok hA ?_; (try (conv => cbv))))
  refine br (False) (by rw [e_neq hA]; rfl) (fun q => q.elim) (fun _ => ?_) <;> (try (conv => cbv)) <;> repeat (refine brk_ok hA ?_; (try (conv => cbv)))
  refine div_ok hA l13 is4.i64n is4.i64d is3.i64n is3.i64d (fun _ _ _ ho h14 x14 => ⟨_, _, _, rfl, ?_⟩)
  obtain ⟨is5, rfl⟩ := divIs_of is4 is3 (by have := inc; grind) (f5.fits (by omega) (by omega)) ho
  have e14 := e13.trans x14
  have l14 := e14.lowOK hlow
  ((try (conv => cbv)); repeat (refine brk_ok hA ?_; (try (conv => cbv))))
  refine br (False) (by rw [e_neq hA]; rfl) (fun q => q.elim) (fun _ => ?_) <;> (try (conv => cbv)) <;> repeat (refine brk_ok hA ?_; (try (conv => cbv)))
  refine fadd_ok hA l14 ib2.i64n ib2.i64d is5.i64n is5.i64d (fun s1 s2 _ ho h15 x15 => ⟨_, _, _, rfl, ?_⟩)
  have e6 : lineQ (toK l) k x = ky (toK l) k' + (ky (toK l) k - ky (toK l) k') * (x - kx (toK l) k') / (kx (toK l) k - kx (toK l) k') := by unfold lineQ; rw [← hk']
  obtain ⟨is6, rfl⟩ := opIs_of ib2 is5 (by rw [← e6]; exact f6.fits (by omega) (by omega)) ho
  rw [← e6] at is6
  ((try (conv => cbv)); repeat (refine brk_ok hA ?_; (try (conv => cbv))))
  exact hQ _ _ _ _ is6 hv f6 (e14.trans x15)

end Go.Proofs.Ytnokkniofajnhaa
