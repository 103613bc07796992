/-
  frac: sums and differences.
-/
import Derived.Test.YtnokkniofajnhaaFracI
namespace Go.Proofs.Ytnokkniofajnhaa
open Go.Sim
set_option linter.unusedVariables false
set_option maxRecDepth 100000

variable {F : Prims}
  {call : FuncId → List Value → AHeap → (Value → AHeap → Prop) → Prop}
  {head : FuncId → Nat → Nat → SS → (Exit → SS → Prop) → Prop}
  {arith : BinOp → IntKind → Int → Int → Int}
  {cmp : BinOp → Int → Int → Bool}
  {scmp : BinOp → ByteArray → ByteArray → Bool}
  {bnot : Bool → Bool}
  {bsame : Bool → Bool → Bool}
  {conv : IntKind → Int → Int}
  {neg : IntKind → Int → Int}
  {imax : Int → Int → Int}
  {imin : Int → Int → Int}
  {ofNat : Nat → Int}
  {slen : ByteArray → Int}
  {place : Nat → Int → Nat → Nat}
  {inR : Int → Nat → Prop}
  {nz : Int → Prop}
  {geZ : Int → Prop}
  {rd : AHeap → Nat → Nat → Nat → List Value → Prop}
  {wr : AHeap → Nat → Nat → List Value → AHeap → Prop}
  {push : AHeap → Nat → List Value → AHeap}
  {next : AHeap → Nat}
  {mkOK : Int → Int → Prop}
  {nat : Int → Nat}
  {zeros : List Value → Int → List Value}
  {sadd : ByteArray → ByteArray → (ByteArray → Prop) → Prop}
  {eqAgg : TypeId → Array Value → Array Value → (Bool → Prop) → Prop}
  {cut : Nat → Int → Prop}
  {slc : TypeId → Value → Option Value → Option Value → Option Value → (Option Addr → Nat → Nat → Prop) → Prop}
  {sslc : TypeId → ByteArray → Option Value → Option Value → (ByteArray → Prop) → Prop}
  {strAt : ByteArray → Int → (Int → Prop) → Prop}
  {part : TypeId → Array Value → Nat → Value → Prop}
  {app : List TypeId → List Value → AHeap → (Option Addr → Nat → Nat → AHeap → Prop) → Prop}
  {cpy : List TypeId → List Value → AHeap → (Int → AHeap → Prop) → Prop}
  {putAt : AHeap → Nat → Nat → List Value → AHeap}
  {fresh : AHeap → AHeap}
  {lowered : AHeap → AHeap → AHeap}
  {bump : AHeap → Nat → AHeap}
  {wrote : AHeap → AHeap → Bool}
  {addN : Nat → Nat → Nat}
  {lt : Nat → Nat → Prop}
  {ne : Nat → Nat → Prop}
  {fpAll : Bool → Bool → Bool → Nat → Nat → Prop}
  {brk : (Unit → Prop) → Prop}
  {yn : Nat → Nat}
  {rng : FuncId → Nat → SS → (Exit → SS → Prop) → Prop}
  {mget : TypeId → Value → Value → AHeap → Value → Bool → Prop}
  {mput : TypeId → Value → Value → Value → AHeap → AHeap → Prop}
  {mnew : AHeap → AHeap}
  {bytes : TypeId → TypeId → Option Addr → Nat → AHeap → ByteArray → Prop}
  {clr : List TypeId → List Value → AHeap → AHeap → Prop}
  (hA : AP F ⟨call, head, arith, cmp, scmp, bnot, bsame, conv, neg, imax, imin, ofNat, slen, place, inR, nz, geZ, rd, wr, push, next, mkOK, nat, zeros, sadd, eqAgg, cut, slc, sslc, strAt, part, app, cpy, putAt, fresh, lowered, bump, wrote, addN, lt, ne, fpAll, brk, yn, rng, mget, mput, mnew, bytes, clr⟩)
include hA

theorem lssT (a : Int) : cmp .lss a 0 = true ↔ a < 0 := by rw [e_lss hA]; simp

set_option maxHeartbeats 1000000 in
theorem sum_ok {h : AHeap} (hlow : h.low ≤ h.next) {n d m e : Int} {p q : Rat} (hp : isF n d p) (hq : isF m e q) {Q : Value → AHeap → Prop}
    (hQ : ∀ a b r, outF (p + q) a b r → ∀ h', Ext h h' → Q (.tuple #[.agg #[.int .i64 a, .int .i64 b], .int .i64 r]) h') : call 71 [.agg #[.int .i64 n, .int .i64 d], .agg #[.int .i64 m, .int .i64 e]] h Q := by
  have pd := hp.den
  have qd := hq.den
  have in64 := hp.i64n
  have id64 := hp.i64d
  have im64 := hq.i64n
  have ie64 := hq.i64d
  have pn : (n.natAbs : Int) ≤ 1000000000000000000 := by obtain ⟨rfl, _, h1, h2, _⟩ := hp; omega
  have qn : (m.natAbs : Int) ≤ 1000000000000000000 := by obtain ⟨rfl, _, h1, h2, _⟩ := hq; omega
  have pdl : d ≤ 1000000000000000000 := by obtain ⟨_, rfl, _, _, h3⟩ := hp; omega
  have qdl : e ≤ 1000000000000000000 := by obtain ⟨_, rfl, _, _, h3⟩ := hq; omega
  have ud : u64 d := by unfold u64; omega
  have ue : u64 e := by unfold u64; omega
  refine hA.bodyR Try.func71 r71_ok (hA.alike _ _ _ rfl) hlow ?_; (try (conv => cbv)); repeat (refine brk_ok hA ?_; (try (conv => cbv)))
  obtain ⟨h9, hh9⟩ : ∃ z, z = bump h 8 := ⟨_, rfl⟩
  have e9 : Ext h h9 := by rw [hh9]; exact ext_bump hA _ _
  have l9 := e9.lowOK hlow
  rw [← hh9]
  ((try (conv => cbv)); repeat (refine brk_ok hA ?_; (try (conv => cbv))))
  refine size_ok hA (low_fresh hA h9) id64 (fun s1 hs1 => ⟨_, rfl, ?_⟩)
  rw [show s1 = d by omega]
  ((try (conv => cbv)); repeat (refine brk_ok hA ?_; (try (conv => cbv))))
  rw [low_same hA l9]
  refine size_ok hA (low_fresh hA h9) ie64 (fun s2 hs2 => ⟨_, rfl, ?_⟩)
  rw [show s2 = e by omega]
  ((try (conv => cbv)); repeat (refine brk_ok hA ?_; (try (conv => cbv))))
  rw [low_same hA l9]
  refine gcd_ok hA l9 ud ue (fun dd hdd h10 x10 => ⟨_, rfl, ?_⟩)
  have e10 := e9.trans x10
  have l10 := e10.lowOK hlow
  have dle : dd ≤ d := by
    rw [hdd, gcd_nat ud.1 ue.1]
    have := Nat.gcd_le_left e.toNat (m := d.toNat) (by omega)
    omega
  have dp : 0 < dd := by
    rw [hdd, gcd_nat ud.1 ue.1]
    have := Nat.gcd_pos_of_pos_left e.toNat (m := d.toNat) (by omega)
    omega
  have udd : u64 dd := by unfold u64; omega
  ((try (conv => cbv)); repeat (refine brk_ok hA ?_; (try (conv => cbv))))
  obtain ⟨h11, hh11⟩ : ∃ z, z = bump h10 12 := ⟨_, rfl⟩
  have e11 : Ext h h11 := by rw [hh11]; exact e10.trans (ext_bump hA _ _)
  have l11 := e11.lowOK hlow
  rw [← hh11]
  refine ⟨nz_ok hA (by omega), ?_⟩
  ((try (conv => cbv)); repeat (refine brk_ok hA ?_; (try (conv => cbv))))
  rw [quoU hA ue.1 ue.2 dp]
  have v1 := div_u64 ue dp
  have v1l : e / dd ≤ e := Int.ediv_le_self dd ue.1
  have v2 := div_u64 ud dp
  have v2l : d / dd ≤ d := Int.ediv_le_self dd ud.1
  obtain ⟨k1, hk1⟩ : ∃ z, z = e / dd := ⟨_, rfl⟩
  obtain ⟨k2, hk2⟩ : ∃ z, z = d / dd := ⟨_, rfl⟩
  rw [← hk1] at v1 v1l ⊢
  rw [← hk2] at v2 v2l
  ((try (conv => cbv)); repeat (refine brk_ok hA ?_; (try (conv => cbv))))
  refine size_ok hA (low_fresh hA h11) in64 (fun s3 hs3 => ⟨_, rfl, ?_⟩)
  ((try (conv => cbv)); repeat (refine brk_ok hA ?_; (try (conv => cbv))))
  rw [low_same hA l11]
  have u3 : u64 s3 := by unfold u64; omega
  refine mul64_ok hA (low_fresh hA h11) u3 v1 (fun ah al f1 f2 => ⟨_, _, rfl, ?_⟩)
  ((try (conv => cbv)); repeat (refine brk_ok hA ?_; (try (conv => cbv))))
  rw [low_same hA l11]
  obtain ⟨A, hAe⟩ : ∃ z, z = (n.natAbs : Int) * (e / dd) := ⟨_, rfl⟩
  obtain ⟨B, hBe⟩ : ∃ z, z = (m.natAbs : Int) * (d / dd) := ⟨_, rfl⟩
  have hAe2 : A = s3 * k1 := by rw [hAe, hs3, hk1]
  rw [← hAe2] at f1 f2
  have A0 := mul_bd 1000000000000000000 1000000000000000000 (a := (n.natAbs : Int)) (b := k1) (by omega) pn v1.1 (by omega)
  rw [hk1, ← hAe] at A0
  obtain ⟨h12, hh12⟩ : ∃ z, z = bump h11 12 := ⟨_, rfl⟩
  have e12 : Ext h h12 := by rw [hh12]; exact e11.trans (ext_bump hA _ _)
  have l12 := e12.lowOK hlow
  rw [← hh12]
  refine ⟨nz_ok hA (by omega), ?_⟩
  ((try (conv => cbv)); repeat (refine brk_ok hA ?_; (try (conv => cbv))))
  rw [quoU hA ud.1 ud.2 dp, ← hk2]
  ((try (conv => cbv)); repeat (refine brk_ok hA ?_; (try (conv => cbv))))
  refine size_ok hA (low_fresh hA h12) im64 (fun s4 hs4 => ⟨_, rfl, ?_⟩)
  ((try (conv => cbv)); repeat (refine brk_ok hA ?_; (try (conv => cbv))))
  rw [low_same hA l12]
  have u4 : u64 s4 := by unfold u64; omega
  refine mul64_ok hA (low_fresh hA h12) u4 v2 (fun bh bl f3 f4 => ⟨_, _, rfl, ?_⟩)
  ((try (conv => cbv)); repeat (refine brk_ok hA ?_; (try (conv => cbv))))
  rw [low_same hA l12]
  have hBe2 : B = s4 * k2 := by rw [hBe, hs4, hk2]
  rw [← hBe2] at f3 f4
  have B0 := mul_bd 1000000000000000000 1000000000000000000 (a := (m.natAbs : Int)) (b := k2) (by omega) qn v2.1 (by omega)
  rw [hk2, ← hBe] at B0
  have e13 := e12
  have l13 := l12
  have lo0 : u64 al ∧ u64 bl ∧ u64 ah ∧ u64 bh := by unfold u64; omega
  obtain ⟨ual, ubl, uah, ubh⟩ := lo0
  have hA2 : ah * 18446744073709551616 + al = A := by omega
  have hB2 : bh * 18446744073709551616 + bl = B := by omega
  refine br ((n < 0) ↔ (m < 0)) (by rw [e_bsame hA, e_lss hA, e_lss hA]; by_cases z1 : n < 0 <;> by_cases z2 : m < 0 <;> simp [z1, z2]) (fun cs => ?_) (fun cs => ?_) <;> (try (conv => cbv)) <;> repeat (refine brk_ok hA ?_; (try (conv => cbv)))
  · refine add64_ok hA ual.1 ubl.1 (by omega) (fun lo cy g1 g2 => ⟨_, _, rfl, ?_⟩)
    ((try (conv => cbv)); repeat (refine brk_ok hA ?_; (try (conv => cbv))))
    refine add64_ok hA uah.1 ubh.1 (by unfold u64 at *; omega) (fun hi cz g3 g4 => ⟨_, _, rfl, ?_⟩)
    ((try (conv => cbv)); repeat (refine brk_ok hA ?_; (try (conv => cbv))))
    obtain ⟨T, hTe⟩ : ∃ z, z = A + B := ⟨_, rfl⟩
    have hhl : hi * 18446744073709551616 + lo = T := by unfold u64 at *; omega
    have hTT : ((n < 0 ↔ m < 0) ∧ T = A + B ∧ (cmp .lss n 0 = true ↔ n < 0)) ∨ (¬ (n < 0 ↔ m < 0) ∧ B ≤ A ∧ T = A - B ∧ (cmp .lss n 0 = true ↔ n < 0)) ∨ (¬ (n < 0 ↔ m < 0) ∧ A < B ∧ T = B - A ∧ (cmp .lss n 0 = true ↔ m < 0)) := .inl ⟨cs, hTe, lssT hA n⟩
    have hib : 0 ≤ hi ∧ hi < 18446744073709551616 ∧ 0 ≤ lo ∧ lo < 18446744073709551616 := by unfold u64 at *; omega
    have uhi : u64 hi := by unfold u64; omega
    have ulo : u64 lo := by unfold u64; omega
    refine rem64_ok hA l13 uhi ulo udd dp (fun r hr h14 x14 => ⟨_, rfl, ?_⟩)
    have e14 := e13.trans x14
    have l14 := e14.lowOK hlow
    rw [hhl] at hr
    ((try (conv => cbv)); repeat (refine brk_ok hA ?_; (try (conv => cbv))))
    have ur : u64 r := by
      have := Int.emod_nonneg T (b := dd) (by omega)
      have := Int.emod_lt_of_pos T dp
      have := udd.2
      unfold u64; omega
    refine gcd_ok hA l14 udd ur (fun g hg h15 x15 => ⟨_, rfl, ?_⟩)
    have e15 := e14.trans x15
    have l15 := e15.lowOK hlow
    obtain ⟨a1, a2, a3, a4, a5, a6, a7⟩ := add_prog hp hq (d := dd) hdd hAe hBe (T := T) (neg := cmp .lss n 0) hTT (g := g) (by rw [hg, hr])
    ((try (conv => cbv)); repeat (refine brk_ok hA ?_; (try (conv => cbv))))
    have hq1 : T / g = 0 + T / g := by omega
    obtain ⟨N, hN⟩ : ∃ z, z = T / g := ⟨_, rfl⟩
    obtain ⟨D, hD⟩ : ∃ z, z = d / dd * (e / g) := ⟨_, rfl⟩
    have N0 : 0 ≤ N := by rw [hN]; exact Int.ediv_nonneg a5 (by omega)
    have D0 : 0 ≤ D := by rw [hD]; exact Int.mul_nonneg (Int.ediv_nonneg (by omega) (by omega)) (Int.ediv_nonneg (by omega) (by omega))
    rw [← hN] at a1
    rw [← hD] at a2
    have hf : fits (p + q) ↔ N ≤ 1000000000000000000 ∧ D ≤ 1000000000000000000 := by
      unfold fits
      rw [a1, a2]
      split <;> omega
    refine br (g ≤ hi) (by rw [e_geq hA]) (fun c5 => ?_) (fun c5 => ?_) <;> (try (conv => cbv)) <;> repeat (refine brk_ok hA ?_; (try (conv => cbv)))
    · refine hQ _ _ _ (.inr ⟨fun w => ?_, rfl, rfl, rfl⟩) _ e15
      have w1 := (hf.1 w).1
      have w2 : 18446744073709551616 ≤ T / g := by
        rw [Int.le_ediv_iff_mul_le a3, ← hhl]
        omega
      omega
    have ug : u64 g := by have := udd.2; unfold u64; omega
    refine div64_ok hA l15 uhi.1 ulo ug (by omega) (fun q1 r1 hq2 hr2 h16 x16 => ⟨_, _, rfl, ?_⟩)
    have e16 := e15.trans x16
    have l16 := e16.lowOK hlow
    rw [hhl, ← hN] at hq2
    ((try (conv => cbv)); repeat (refine brk_ok hA ?_; (try (conv => cbv))))
    obtain ⟨h17, hh17⟩ : ∃ z, z = bump h16 12 := ⟨_, rfl⟩
    have e17 : Ext h h17 := by rw [hh17]; exact e16.trans (ext_bump hA _ _)
    have l17 := e17.lowOK hlow
    rw [← hh17]
    refine ⟨nz_ok hA (by omega), ?_⟩
    ((try (conv => cbv)); repeat (refine brk_ok hA ?_; (try (conv => cbv))))
    refine ⟨nz_ok hA (by omega), ?_⟩
    ((try (conv => cbv)); repeat (refine brk_ok hA ?_; (try (conv => cbv))))
    rw [quoU hA ud.1 ud.2 dp, quoU hA ue.1 ue.2 a3]
    have v1 := div_u64 ud dp
    have v2 := div_u64 ue a3
    generalize d / dd = y1 at *
    generalize e / g = y2 at *
    ((try (conv => cbv)); repeat (refine brk_ok hA ?_; (try (conv => cbv))))
    refine mul64_ok hA (low_fresh hA h17) v1 v2 (fun hi2 lo2 f3 f4 => ⟨_, _, rfl, ?_⟩)
    rw [← hD] at f3 f4
    ((try (conv => cbv)); repeat (refine brk_ok hA ?_; (try (conv => cbv))))
    rw [low_same hA l17]
    refine br (hi2 ≠ 0) (by rw [e_neq hA]) (fun c6 => ?_) (fun c6 => ?_) <;> (try (conv => cbv)) <;> repeat (refine brk_ok hA ?_; (try (conv => cbv)))
    · exact hQ _ _ _ (.inr ⟨fun w => by have := hf.1 w; omega, rfl, rfl, rfl⟩) _ e17
    have uN : u64 N := by
      have : N < 18446744073709551616 := by
        rw [hN, Int.ediv_lt_iff_lt_mul a3, ← hhl]
        omega
      exact ⟨N0, this⟩
    refine build_ok hA l17 (q := p + q) (N := q1) (D := lo2) (by rw [hq2]; exact uN) (by unfold u64; omega) (by rw [hq2]; exact a1) (by rw [a2]; omega) (fun a b r ho => ⟨_, _, _, rfl, ?_⟩)
    ((try (conv => cbv)); repeat (refine brk_ok hA ?_; (try (conv => cbv))))
    exact hQ a b r ho _ e17
  · refine wider_ok hA l12 ual ubl (fun cw hcw => ⟨_, rfl, ?_⟩)
    rw [hA2, hB2] at hcw
    ((try (conv => cbv)); repeat (refine brk_ok hA ?_; (try (conv => cbv))))
    refine br (0 ≤ cw) (by rw [e_geq hA]) (fun cc => ?_) (fun cc => ?_) <;> (try (conv => cbv)) <;> repeat (refine brk_ok hA ?_; (try (conv => cbv)))
    · have hAB : B ≤ A := by
        unfold sgn at hcw
        by_cases z : B ≤ A
        · exact z
        · rw [if_neg (by omega), if_neg (by omega)] at hcw; omega
      refine sub64_ok hA ual ubl (by omega) (fun lo cy g1 g2 => ⟨_, _, rfl, ?_⟩)
      ((try (conv => cbv)); repeat (refine brk_ok hA ?_; (try (conv => cbv))))
      have hcy : 0 ≤ cy ∧ cy ≤ 1 := by rw [g2]; split <;> omega
      have hcy2 : (al < bl ∧ cy = 1) ∨ (bl ≤ al ∧ cy = 0) := by
        by_cases z : al < bl
        · rw [if_pos (by omega)] at g2; omega
        · rw [if_neg (by omega)] at g2; omega
      refine sub64_ok hA uah ubh hcy (fun hi cz g3 g4 => ⟨_, _, rfl, ?_⟩)
      ((try (conv => cbv)); repeat (refine brk_ok hA ?_; (try (conv => cbv))))
      obtain ⟨T, hTe⟩ : ∃ z, z = A - B := ⟨_, rfl⟩
      have hhl : hi * 18446744073709551616 + lo = T := by unfold u64 at *; omega
      have hTT : ((n < 0 ↔ m < 0) ∧ T = A + B ∧ (cmp .lss n 0 = true ↔ n < 0)) ∨ (¬ (n < 0 ↔ m < 0) ∧ B ≤ A ∧ T = A - B ∧ (cmp .lss n 0 = true ↔ n < 0)) ∨ (¬ (n < 0 ↔ m < 0) ∧ A < B ∧ T = B - A ∧ (cmp .lss n 0 = true ↔ m < 0)) := .inr (.inl ⟨cs, hAB, hTe, lssT hA n⟩)
      have hib : 0 ≤ hi ∧ hi < 18446744073709551616 ∧ 0 ≤ lo ∧ lo < 18446744073709551616 := by unfold u64 at *; omega
      have uhi : u64 hi := by unfold u64; omega
      have ulo : u64 lo := by unfold u64; omega
      refine rem64_ok hA l13 uhi ulo udd dp (fun r hr h14 x14 => ⟨_, rfl, ?_⟩)
      have e14 := e13.trans x14
      have l14 := e14.lowOK hlow
      rw [hhl] at hr
      ((try (conv => cbv)); repeat (refine brk_ok hA ?_; (try (conv => cbv))))
      have ur : u64 r := by
        have := Int.emod_nonneg T (b := dd) (by omega)
        have := Int.emod_lt_of_pos T dp
        have := udd.2
        unfold u64; omega
      refine gcd_ok hA l14 udd ur (fun g hg h15 x15 => ⟨_, rfl, ?_⟩)
      have e15 := e14.trans x15
      have l15 := e15.lowOK hlow
      obtain ⟨a1, a2, a3, a4, a5, a6, a7⟩ := add_prog hp hq (d := dd) hdd hAe hBe (T := T) (neg := cmp .lss n 0) hTT (g := g) (by rw [hg, hr])
      ((try (conv => cbv)); repeat (refine brk_ok hA ?_; (try (conv => cbv))))
      have hq1 : T / g = 0 + T / g := by omega
      obtain ⟨N, hN⟩ : ∃ z, z = T / g := ⟨_, rfl⟩
      obtain ⟨D, hD⟩ : ∃ z, z = d / dd * (e / g) := ⟨_, rfl⟩
      have N0 : 0 ≤ N := by rw [hN]; exact Int.ediv_nonneg a5 (by omega)
      have D0 : 0 ≤ D := by rw [hD]; exact Int.mul_nonneg (Int.ediv_nonneg (by omega) (by omega)) (Int.ediv_nonneg (by omega) (by omega))
      rw [← hN] at a1
      rw [← hD] at a2
      have hf : fits (p + q) ↔ N ≤ 1000000000000000000 ∧ D ≤ 1000000000000000000 := by
        unfold fits
        rw [a1, a2]
        split <;> omega
      refine br (g ≤ hi) (by rw [e_geq hA]) (fun c5 => ?_) (fun c5 => ?_) <;> (try (conv => cbv)) <;> repeat (refine brk_ok hA ?_; (try (conv => cbv)))
      · refine hQ _ _ _ (.inr ⟨fun w => ?_, rfl, rfl, rfl⟩) _ e15
        have w1 := (hf.1 w).1
        have w2 : 18446744073709551616 ≤ T / g := by
          rw [Int.le_ediv_iff_mul_le a3, ← hhl]
          omega
        omega
      have ug : u64 g := by have := udd.2; unfold u64; omega
      refine div64_ok hA l15 uhi.1 ulo ug (by omega) (fun q1 r1 hq2 hr2 h16 x16 => ⟨_, _, rfl, ?_⟩)
      have e16 := e15.trans x16
      have l16 := e16.lowOK hlow
      rw [hhl, ← hN] at hq2
      ((try (conv => cbv)); repeat (refine brk_ok hA ?_; (try (conv => cbv))))
      obtain ⟨h17, hh17⟩ : ∃ z, z = bump h16 12 := ⟨_, rfl⟩
      have e17 : Ext h h17 := by rw [hh17]; exact e16.trans (ext_bump hA _ _)
      have l17 := e17.lowOK hlow
      rw [← hh17]
      refine ⟨nz_ok hA (by omega), ?_⟩
      ((try (conv => cbv)); repeat (refine brk_ok hA ?_; (try (conv => cbv))))
      refine ⟨nz_ok hA (by omega), ?_⟩
      ((try (conv => cbv)); repeat (refine brk_ok hA ?_; (try (conv => cbv))))
      rw [quoU hA ud.1 ud.2 dp, quoU hA ue.1 ue.2 a3]
      have v1 := div_u64 ud dp
      have v2 := div_u64 ue a3
      generalize d / dd = y1 at *
      generalize e / g = y2 at *
      ((try (conv => cbv)); repeat (refine brk_ok hA ?_; (try (conv => cbv))))
      refine mul64_ok hA (low_fresh hA h17) v1 v2 (fun hi2 lo2 f3 f4 => ⟨_, _, rfl, ?_⟩)
      rw [← hD] at f3 f4
      ((try (conv => cbv)); repeat (refine brk_ok hA ?_; (try (conv => cbv))))
      rw [low_same hA l17]
      refine br (hi2 ≠ 0) (by rw [e_neq hA]) (fun c6 => ?_) (fun c6 => ?_) <;> (try (conv => cbv)) <;> repeat (refine brk_ok hA ?_; (try (conv => cbv)))
      · exact hQ _ _ _ (.inr ⟨fun w => by have := hf.1 w; omega, rfl, rfl, rfl⟩) _ e17
      have uN : u64 N := by
        have : N < 18446744073709551616 := by
          rw [hN, Int.ediv_lt_iff_lt_mul a3, ← hhl]
          omega
        exact ⟨N0, this⟩
      refine build_ok hA l17 (q := p + q) (N := q1) (D := lo2) (by rw [hq2]; exact uN) (by unfold u64; omega) (by rw [hq2]; exact a1) (by rw [a2]; omega) (fun a b r ho => ⟨_, _, _, rfl, ?_⟩)
      ((try (conv => cbv)); repeat (refine brk_ok hA ?_; (try (conv => cbv))))
      exact hQ a b r ho _ e17
    · have hAB : A < B := by
        unfold sgn at hcw
        by_cases z : A < B
        · exact z
        · by_cases z2 : A = B
          · rw [if_neg (by omega), if_pos (by omega)] at hcw; omega
          · rw [if_pos (by omega)] at hcw; omega
      refine sub64_ok hA ubl ual (by omega) (fun lo cy g1 g2 => ⟨_, _, rfl, ?_⟩)
      ((try (conv => cbv)); repeat (refine brk_ok hA ?_; (try (conv => cbv))))
      have hcy : 0 ≤ cy ∧ cy ≤ 1 := by rw [g2]; split <;> omega
      have hcy2 : (bl < al ∧ cy = 1) ∨ (al ≤ bl ∧ cy = 0) := by
        by_cases z : bl < al
        · rw [if_pos (by omega)] at g2; omega
        · rw [if_neg (by omega)] at g2; omega
      refine sub64_ok hA ubh uah hcy (fun hi cz g3 g4 => ⟨_, _, rfl, ?_⟩)
      ((try (conv => cbv)); repeat (refine brk_ok hA ?_; (try (conv => cbv))))
      obtain ⟨T, hTe⟩ : ∃ z, z = B - A := ⟨_, rfl⟩
      have hhl : hi * 18446744073709551616 + lo = T := by unfold u64 at *; omega
      have hTT : ((n < 0 ↔ m < 0) ∧ T = A + B ∧ (cmp .lss m 0 = true ↔ n < 0)) ∨ (¬ (n < 0 ↔ m < 0) ∧ B ≤ A ∧ T = A - B ∧ (cmp .lss m 0 = true ↔ n < 0)) ∨ (¬ (n < 0 ↔ m < 0) ∧ A < B ∧ T = B - A ∧ (cmp .lss m 0 = true ↔ m < 0)) := .inr (.inr ⟨cs, hAB, hTe, lssT hA m⟩)
      have hib : 0 ≤ hi ∧ hi < 18446744073709551616 ∧ 0 ≤ lo ∧ lo < 18446744073709551616 := by unfold u64 at *; omega
      have uhi : u64 hi := by unfold u64; omega
      have ulo : u64 lo := by unfold u64; omega
      refine rem64_ok hA l13 uhi ulo udd dp (fun r hr h14 x14 => ⟨_, rfl, ?_⟩)
      have e14 := e13.trans x14
      have l14 := e14.lowOK hlow
      rw [hhl] at hr
      ((try (conv => cbv)); repeat (refine brk_ok hA ?_; (try (conv => cbv))))
      have ur : u64 r := by
        have := Int.emod_nonneg T (b := dd) (by omega)
        have := Int.emod_lt_of_pos T dp
        have := udd.2
        unfold u64; omega
      refine gcd_ok hA l14 udd ur (fun g hg h15 x15 => ⟨_, rfl, ?_⟩)
      have e15 := e14.trans x15
      have l15 := e15.lowOK hlow
      obtain ⟨a1, a2, a3, a4, a5, a6, a7⟩ := add_prog hp hq (d := dd) hdd hAe hBe (T := T) (neg := cmp .lss m 0) hTT (g := g) (by rw [hg, hr])
      ((try (conv => cbv)); repeat (refine brk_ok hA ?_; (try (conv => cbv))))
      have hq1 : T / g = 0 + T / g := by omega
      obtain ⟨N, hN⟩ : ∃ z, z = T / g := ⟨_, rfl⟩
      obtain ⟨D, hD⟩ : ∃ z, z = d / dd * (e / g) := ⟨_, rfl⟩
      have N0 : 0 ≤ N := by rw [hN]; exact Int.ediv_nonneg a5 (by omega)
      have D0 : 0 ≤ D := by rw [hD]; exact Int.mul_nonneg (Int.ediv_nonneg (by omega) (by omega)) (Int.ediv_nonneg (by omega) (by omega))
      rw [← hN] at a1
      rw [← hD] at a2
      have hf : fits (p + q) ↔ N ≤ 1000000000000000000 ∧ D ≤ 1000000000000000000 := by
        unfold fits
        rw [a1, a2]
        split <;> omega
      refine br (g ≤ hi) (by rw [e_geq hA]) (fun c5 => ?_) (fun c5 => ?_) <;> (try (conv => cbv)) <;> repeat (refine brk_ok hA ?_; (try (conv => cbv)))
      · refine hQ _ _ _ (.inr ⟨fun w => ?_, rfl, rfl, rfl⟩) _ e15
        have w1 := (hf.1 w).1
        have w2 : 18446744073709551616 ≤ T / g := by
          rw [Int.le_ediv_iff_mul_le a3, ← hhl]
          omega
        omega
      have ug : u64 g := by have := udd.2; unfold u64; omega
      refine div64_ok hA l15 uhi.1 ulo ug (by omega) (fun q1 r1 hq2 hr2 h16 x16 => ⟨_, _, rfl, ?_⟩)
      have e16 := e15.trans x16
      have l16 := e16.lowOK hlow
      rw [hhl, ← hN] at hq2
      ((try (conv => cbv)); repeat (refine brk_ok hA ?_; (try (conv => cbv))))
      obtain ⟨h17, hh17⟩ : ∃ z, z = bump h16 12 := ⟨_, rfl⟩
      have e17 : Ext h h17 := by rw [hh17]; exact e16.trans (ext_bump hA _ _)
      have l17 := e17.lowOK hlow
      rw [← hh17]
      refine ⟨nz_ok hA (by omega), ?_⟩
      ((try (conv => cbv)); repeat (refine brk_ok hA ?_; (try (conv => cbv))))
      refine ⟨nz_ok hA (by omega), ?_⟩
      ((try (conv => cbv)); repeat (refine brk_ok hA ?_; (try (conv => cbv))))
      rw [quoU hA ud.1 ud.2 dp, quoU hA ue.1 ue.2 a3]
      have v1 := div_u64 ud dp
      have v2 := div_u64 ue a3
      generalize d / dd = y1 at *
      generalize e / g = y2 at *
      ((try (conv => cbv)); repeat (refine brk_ok hA ?_; (try (conv => cbv))))
      refine mul64_ok hA (low_fresh hA h17) v1 v2 (fun hi2 lo2 f3 f4 => ⟨_, _, rfl, ?_⟩)
      rw [← hD] at f3 f4
      ((try (conv => cbv)); repeat (refine brk_ok hA ?_; (try (conv => cbv))))
      rw [low_same hA l17]
      refine br (hi2 ≠ 0) (by rw [e_neq hA]) (fun c6 => ?_) (fun c6 => ?_) <;> (try (conv => cbv)) <;> repeat (refine brk_ok hA ?_; (try (conv => cbv)))
      · exact hQ _ _ _ (.inr ⟨fun w => by have := hf.1 w; omega, rfl, rfl, rfl⟩) _ e17
      have uN : u64 N := by
        have : N < 18446744073709551616 := by
          rw [hN, Int.ediv_lt_iff_lt_mul a3, ← hhl]
          omega
        exact ⟨N0, this⟩
      refine build_ok hA l17 (q := p + q) (N := q1) (D := lo2) (by rw [hq2]; exact uN) (by unfold u64; omega) (by rw [hq2]; exact a1) (by rw [a2]; omega) (fun a b r ho => ⟨_, _, _, rfl, ?_⟩)
      ((try (conv => cbv)); repeat (refine brk_ok hA ?_; (try (conv => cbv))))
      exact hQ a b r ho _ e17

end Go.Proofs.Ytnokkniofajnhaa
