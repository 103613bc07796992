/-
  fringeref01: Add, Neg, Sub.
-/
import Derived.Test.YtnokkniofajnhaaFracZb
import Derived.Test.YtnokkniofajnhaaSeatT
namespace Go.Proofs.Ytnokkniofajnhaa
open Go.Sim
set_option linter.unusedVariables false
set_option maxRecDepth 100000


variable {F : Prims}
  {call : FuncId → List Value → AHeap → (Value → AHeap → Prop) → Prop}
  {head : FuncId → Nat → Nat → SS → (Exit → SS → Prop) → Prop}
  {arith : BinOp → IntKind → Int → Int → Int}
  {cmp : BinOp → Int → Int → Bool}
  {scmp : BinOp → ByteArray → ByteArray → Bool}
  {bnot : Bool → Bool}
  {bsame : Bool → Bool → Bool}
  {conv : IntKind → Int → Int}
  {neg : IntKind → Int → Int}
  {imax : Int → Int → Int}
  {imin : Int → Int → Int}
  {ofNat : Nat → Int}
  {slen : ByteArray → Int}
  {place : Nat → Int → Nat → Nat}
  {inR : Int → Nat → Prop}
  {nz : Int → Prop}
  {geZ : Int → Prop}
  {rd : AHeap → Nat → Nat → Nat → List Value → Prop}
  {wr : AHeap → Nat → Nat → List Value → AHeap → Prop}
  {push : AHeap → Nat → List Value → AHeap}
  {next : AHeap → Nat}
  {mkOK : Int → Int → Prop}
  {nat : Int → Nat}
  {zeros : List Value → Int → List Value}
  {sadd : ByteArray → ByteArray → (ByteArray → Prop) → Prop}
  {eqAgg : TypeId → Array Value → Array Value → (Bool → Prop) → Prop}
  {cut : Nat → Int → Prop}
  {slc : TypeId → Value → Option Value → Option Value → Option Value → (Option Addr → Nat → Nat → Prop) → Prop}
  {sslc : TypeId → ByteArray → Option Value → Option Value → (ByteArray → Prop) → Prop}
  {strAt : ByteArray → Int → (Int → Prop) → Prop}
  {part : TypeId → Array Value → Nat → Value → Prop}
  {app : List TypeId → List Value → AHeap → (Option Addr → Nat → Nat → AHeap → Prop) → Prop}
  {cpy : List TypeId → List Value → AHeap → (Int → AHeap → Prop) → Prop}
  {putAt : AHeap → Nat → Nat → List Value → AHeap}
  {fresh : AHeap → AHeap}
  {lowered : AHeap → AHeap → AHeap}
  {bump : AHeap → Nat → AHeap}
  {wrote : AHeap → AHeap → Bool}
  {addN : Nat → Nat → Nat}
  {lt : Nat → Nat → Prop}
  {ne : Nat → Nat → Prop}
  {fpAll : Bool → Bool → Bool → Nat → Nat → Prop}
  {brk : (Unit → Prop) → Prop}
  {yn : Nat → Nat}
  {rng : FuncId → Nat → SS → (Exit → SS → Prop) → Prop}
  {mget : TypeId → Value → Value → AHeap → Value → Bool → Prop}
  {mput : TypeId → Value → Value → Value → AHeap → AHeap → Prop}
  {mnew : AHeap → AHeap}
  {bytes : TypeId → TypeId → Option Addr → Nat → AHeap → ByteArray → Prop}
  {clr : List TypeId → List Value → AHeap → AHeap → Prop}
  (hA : AP F ⟨call, head, arith, cmp, scmp, bnot, bsame, conv, neg, imax, imin, ofNat, slen, place, inR, nz, geZ, rd, wr, push, next, mkOK, nat, zeros, sadd, eqAgg, cut, slc, sslc, strAt, part, app, cpy, putAt, fresh, lowered, bump, wrote, addN, lt, ne, fpAll, brk, yn, rng, mget, mput, mnew, bytes, clr⟩)
include hA

theorem radd_ok {h : AHeap} (hlow : h.low ≤ h.next) {n d m e : Int} (hn : i64 n) (hd : i64 d) (hm : i64 m) (he : i64 e) {Q : Value → AHeap → Prop}
    (hQ : ∀ a b r, OpIs (· + ·) n d m e a b r → ∀ h', Ext h h' → Q (.tuple #[.agg #[.int .i64 a, .int .i64 b], .int .i64 r]) h') : call 73 [.agg #[.int .i64 n, .int .i64 d], .agg #[.int .i64 m, .int .i64 e]] h Q := by
  refine hA.bodyR Try.func73 r73_ok (hA.alike _ _ _ rfl) hlow ?_; (try (conv => cbv)); repeat (refine brk_ok hA ?_; (try (conv => cbv)))
  refine rboth_ok hA hlow hn hd hm he (fun r1 h1 k1 x1 => ⟨_, rfl, ?_⟩)
  ((try (conv => cbv)); repeat (refine brk_ok hA ?_; (try (conv => cbv))))
  refine br (r1 ≠ 0) (by rw [e_neq hA]) (fun c1 => ?_) (fun c1 => ?_) <;> (try (conv => cbv)) <;> repeat (refine brk_ok hA ?_; (try (conv => cbv)))
  · refine rboth_ok hA (x1.lowOK hlow) hn hd hm he (fun r3 h3 k3 x3 => ⟨_, rfl, ?_⟩)
    ((try (conv => cbv)); repeat (refine brk_ok hA ?_; (try (conv => cbv))))
    rcases k1 with ⟨q, _⟩ | ⟨rfl, q⟩
    · exact absurd q c1
    · rcases k3 with ⟨_, q3⟩ | ⟨rfl, _⟩
      · exact absurd q3 q
      · exact hQ _ _ _ (.inl ⟨q, rfl, rfl, rfl⟩) _ (x1.trans x3)
  rcases k1 with ⟨_, ⟨p, hp⟩, q, hq⟩ | ⟨q, _⟩
  rotate_left
  · omega
  have hl1 := x1.lowOK hlow
  have in64 := hp.i64n
  have im64 := hq.i64n
  have ie64 := hq.i64d
  have id64 := hp.i64d
  have pd := hp.den
  have qd := hq.den
  have pf := hp.2.2
  have qf := hq.2.2
  unfold fits at pf qf
  rw [← hp.1, ← hp.2.1] at pf
  rw [← hq.1, ← hq.2.1] at qf
  have ud : u64 d := by unfold u64; unfold i64 at id64; omega
  have ue : u64 e := by unfold u64; unfold i64 at ie64; omega
  have cd : conv .u64 d = d := convU hA ud.1 ud.2
  have ce : conv .u64 e = e := convU hA ue.1 ue.2
  rw [cd, ce]
  refine rgcd_ok hA hl1 ud ue (fun g hg h2 x2 => ⟨_, rfl, ?_⟩)
  ((try (conv => cbv)); repeat (refine brk_ok hA ?_; (try (conv => cbv))))
  have hgp : 0 < g := by
    rw [hg]
    have := Int.gcd_pos_of_ne_zero_left (a := d) e (by omega)
    omega
  have hgle : g ≤ d := by
    rw [hg]
    have := Int.gcd_le_left (a := d) e (by omega)
    omega
  have w1 : arith .quo .u64 e g = e / g := quoU hA ue.1 ue.2 hgp
  have w2 : arith .quo .u64 d g = d / g := quoU hA ud.1 ud.2 hgp
  have v1 := div_u64 ue hgp
  have v2 := div_u64 ud hgp
  generalize hE : e / g = E at *
  generalize hD : d / g = D at *
  obtain ⟨h9, hh9⟩ : ∃ z, z = bump h2 22 := ⟨_, rfl⟩
  have e9 : Ext h h9 := by rw [hh9]; exact (x1.trans x2).trans (ext_bump hA _ _)
  have l9 := e9.lowOK hlow
  rw [← hh9]
  refine ⟨nz_ok hA (by omega), ?_⟩
  ((try (conv => cbv)); repeat (refine brk_ok hA ?_; (try (conv => cbv))))
  rw [ce, w1]
  refine ⟨nz_ok hA (by omega), ?_⟩
  ((try (conv => cbv)); repeat (refine brk_ok hA ?_; (try (conv => cbv))))
  rw [cd, w2]
  ((try (conv => cbv)); repeat (refine brk_ok hA ?_; (try (conv => cbv))))
  refine rabs_ok hA (low_fresh hA h9) in64 (fun s1 hs1 => ⟨_, rfl, ?_⟩)
  ((try (conv => cbv)); repeat (refine brk_ok hA ?_; (try (conv => cbv))))
  rw [low_same hA l9]
  have z1 : u64 s1 := by unfold u64; unfold i64 at in64; omega
  refine product4_ok hA (low_fresh hA h9) z1 v1 (fun a0 a1 a2 a3 hz dz ez => ⟨_, _, _, _, rfl, ?_⟩)
  ((try (conv => cbv)); repeat (refine brk_ok hA ?_; (try (conv => cbv))))
  obtain ⟨hX, hhX⟩ : ∃ z, z = lowered h9 hz := ⟨_, rfl⟩
  have eX : Ext h hX := by rw [hhX]; exact ext_low hA hlow e9 ez
  have lX := eX.lowOK hlow
  rw [← hhX]
  refine rabs_ok hA (low_fresh hA hX) im64 (fun s2 hs2 => ⟨_, rfl, ?_⟩)
  ((try (conv => cbv)); repeat (refine brk_ok hA ?_; (try (conv => cbv))))
  rw [low_same hA lX]
  have z2 : u64 s2 := by unfold u64; unfold i64 at im64; omega
  refine product4_ok hA (low_fresh hA hX) z2 v2 (fun b0 b1 b2 b3 hw dw ew => ⟨_, _, _, _, rfl, ?_⟩)
  ((try (conv => cbv)); repeat (refine brk_ok hA ?_; (try (conv => cbv))))
  obtain ⟨hY, hhY⟩ : ∃ z, z = lowered hX hw := ⟨_, rfl⟩
  have eY : Ext h hY := by rw [hhY]; exact ext_low hA hlow eX ew
  have lY := eY.lowOK hlow
  rw [← hhY]
  ((try (conv => cbv)); repeat ((first | refine brk_ok hA ?_ | refine ⟨in_ok hA (by omega) (by omega), ?_⟩ | refine ⟨_, _, rfl, in_ok hA (by omega) (by omega), ?_⟩ | refine ⟨nz_ok hA (by omega), ?_⟩ | refine ⟨geZ_ok hA (by omega), ?_⟩ | refine ⟨ne_ok hA (by omega), ?_⟩ | refine ⟨wrote_no hA (by assumption), ?_⟩ | refine ⟨wrote_no hA (.refl _), ?_⟩ | refine ⟨_, ‹rd _ _ _ _ _›, ?_⟩ | refine ⟨_, _, ‹rd _ _ _ _ _›, ?_⟩ | refine ⟨_, _, _, _, ‹rd _ _ _ _ _›, ?_⟩ | refine ⟨_, ‹wr _ _ _ _ _›, ?_⟩); (try (conv => cbv))))
  obtain ⟨A, hAe⟩ : ∃ z, z = s1 * E := ⟨_, rfl⟩
  obtain ⟨B, hBe⟩ : ∃ z, z = s2 * D := ⟨_, rfl⟩
  rw [← hAe] at dz
  rw [← hBe] at dw
  have fA : A = n.natAbs * (e / g) := by rw [hAe, hs1, ← hE]
  have fB : B = m.natAbs * (d / g) := by rw [hBe, hs2, ← hD]
  have E1 : E ≤ e := by rw [← hE]; exact Int.ediv_le_self g (by omega)
  have D1 : D ≤ d := by rw [← hD]; exact Int.ediv_le_self g (by omega)
  have A0 : 0 ≤ A := by rw [hAe]; exact Int.mul_nonneg z1.1 v1.1
  have B0 : 0 ≤ B := by rw [hBe]; exact Int.mul_nonneg z2.1 v2.1
  have A1 : A ≤ 1000000000000000000000000000000000000 := by
    rw [hAe]
    exact Int.mul_le_mul (show s1 ≤ 1000000000000000000 by omega) (show E ≤ 1000000000000000000 by omega) v1.1 (by omega)
  have B1 : B ≤ 1000000000000000000000000000000000000 := by
    rw [hBe]
    exact Int.mul_le_mul (show s2 ≤ 1000000000000000000 by omega) (show D ≤ 1000000000000000000 by omega) v2.1 (by omega)
  have dec : ∀ x : Int, (decide (x < 0) = true ↔ x < 0) := fun x => by simp
  refine br (n < 0 ↔ m < 0) (by rw [e_bsame hA, e_lss hA, e_lss hA]; by_cases y1 : n < 0 <;> by_cases y2 : m < 0 <;> simp [y1, y2]) (fun c => ?_) (fun c => ?_) <;> (try (conv => cbv)) <;> repeat (refine brk_ok hA ?_; (try (conv => cbv)))
  · refine rsum_ok hA lY dz dw (by omega) (fun t0 t1 t2 t3 hS dT eS => ⟨_, _, _, _, rfl, ?_⟩)
    ((try (conv => cbv)); repeat (refine brk_ok hA ?_; (try (conv => cbv))))
    have eT := eY.trans eS
    obtain ⟨mi, hmi⟩ : ∃ z, z = cmp .lss n 0 := ⟨_, rfl⟩
    have key : ∀ k : Int, k = Int.gcd g ((A + B) % g) → (p + q).num = (if mi = true then -((A + B) / k) else (A + B) / k) ∧ ((p + q).den : Int) = D * (e / k) ∧ 0 < k ∧ k ≤ g ∧ 0 ≤ A + B := fun k hk => by
      obtain ⟨f1, f2, f3, f4, f5, _⟩ := add_prog hp hq hg fA fB (T := A + B) (neg := mi) (.inl ⟨c, rfl, by rw [hmi, e_lss hA]; exact dec n⟩) hk
      exact ⟨f1, by rw [f2, hD], f3, f4, f5⟩
    generalize A + B = T at *
    have lT := eT.lowOK hlow
    refine over_ok hA lT dT hgp (by omega) (fun _ _ _ _ r1 hO1 _ hr1 eO1 => ⟨_, _, _, _, _, rfl, ?_⟩)
    have eU1 := eT.trans eO1
    have lU1 := eU1.lowOK hlow
    ((try (conv => cbv)); repeat (refine brk_ok hA ?_; (try (conv => cbv))))
    have r10 : 0 ≤ r1 := by rw [hr1]; exact Int.emod_nonneg _ (by omega)
    have r11 : r1 < g := by rw [hr1]; exact Int.emod_lt_of_pos _ hgp
    refine rgcd_ok hA lU1 (by unfold u64; omega) (by unfold u64; omega) (fun k hk hO2 eO2 => ⟨_, rfl, ?_⟩)
    have eU2 := eU1.trans eO2
    have lU2 := eU2.lowOK hlow
    ((try (conv => cbv)); repeat (refine brk_ok hA ?_; (try (conv => cbv))))
    obtain ⟨f1, f2, f3, f4, f5⟩ := key k (by rw [hk, hr1, Int.gcd_comm])
    refine over_ok hA lU2 dT f3 (by omega) (fun y0 y1 y2 y3 _ hO3 dY _ eO3 => ⟨_, _, _, _, _, rfl, ?_⟩)
    have eU3 := eU2.trans eO3
    have lU3 := eU3.lowOK hlow
    ((try (conv => cbv)); repeat (refine brk_ok hA ?_; (try (conv => cbv))))
    obtain ⟨rb, hb1, hb2⟩ := eqB y0 y1 y2 y3
    rw [e_eqAgg hA]
    refine ⟨guardB, rb, hb1, ?_⟩
    obtain ⟨Y, hY⟩ : ∃ z, z = T / k := ⟨_, rfl⟩
    rw [← hY] at f1 dY
    have Y0 : 0 ≤ Y := by rw [hY]; exact Int.ediv_nonneg f5 (by omega)
    cases rb with
    | true =>
      ((try (conv => cbv)); repeat (refine brk_ok hA ?_; (try (conv => cbv))))
      have y0 : Y = 0 := by
        obtain ⟨g1, g2, g3, g4⟩ := hb2.1 rfl
        obtain ⟨g5, _⟩ := dY
        omega
      have s0 : p + q = 0 := Rat.num_eq_zero.1 (by rw [f1, y0]; split <;> rfl)
      exact hQ _ _ _ (.inr ⟨p, q, hp, hq, .inl ⟨by show fits (p + q); rw [s0]; exact ⟨by decide, by decide, by decide⟩, by show (0 : Int) = (p + q).num; rw [s0]; rfl, by show (1 : Int) = (p + q).den; rw [s0]; rfl, rfl⟩⟩) _ eU3
    | false =>
      ((try (conv => cbv)); repeat (refine brk_ok hA ?_; (try (conv => cbv))))
      obtain ⟨h20, hh20⟩ : ∃ z, z = bump hO3 20 := ⟨_, rfl⟩
      have e20 : Ext h h20 := by rw [hh20]; exact eU3.trans (ext_bump hA _ _)
      have l20 := e20.lowOK hlow
      rw [← hh20]
      have w3 : arith .quo .u64 e k = e / k := quoU hA ue.1 ue.2 f3
      have w4 : arith .quo .u64 d k = d / k := quoU hA ud.1 ud.2 f3
      have v3 := div_u64 ue f3
      have v4 := div_u64 ud f3
      generalize e / k = E2 at *
      generalize d / k = D2 at *
      refine ⟨nz_ok hA (by omega), ?_⟩
      ((try (conv => cbv)); repeat (refine brk_ok hA ?_; (try (conv => cbv))))
      first | rw [cd, w2] | rw [ce, w1]
      refine ⟨nz_ok hA (by omega), ?_⟩
      ((try (conv => cbv)); repeat (refine brk_ok hA ?_; (try (conv => cbv))))
      first | rw [ce, w3] | rw [cd, w4]
      refine product4_ok hA (low_fresh hA h20) (by first | exact v2 | exact v1) (by first | exact v3 | exact v4) (fun u0 u1 u2 u3 hu du eu => ⟨_, _, _, _, rfl, ?_⟩)
      ((try (conv => cbv)); repeat (refine brk_ok hA ?_; (try (conv => cbv))))
      obtain ⟨h21, hh21⟩ : ∃ z, z = lowered h20 hu := ⟨_, rfl⟩
      have e21 : Ext h h21 := by rw [hh21]; exact ext_low hA hlow e20 eu
      rw [← hh21, ← hmi]
      refine lowest_ok hA (low_fresh hA h21) dY du f1 f2 (fun n' d' e' hv ho ev => ⟨_, _, _, rfl, ?_⟩)
      ((try (conv => cbv)); repeat ((first | refine brk_ok hA ?_ | refine ⟨in_ok hA (by omega) (by omega), ?_⟩ | refine ⟨_, _, rfl, in_ok hA (by omega) (by omega), ?_⟩ | refine ⟨nz_ok hA (by omega), ?_⟩ | refine ⟨geZ_ok hA (by omega), ?_⟩ | refine ⟨ne_ok hA (by omega), ?_⟩ | refine ⟨wrote_no hA (by assumption), ?_⟩ | refine ⟨wrote_no hA (.refl _), ?_⟩ | refine ⟨_, ‹rd _ _ _ _ _›, ?_⟩ | refine ⟨_, _, ‹rd _ _ _ _ _›, ?_⟩ | refine ⟨_, _, _, _, ‹rd _ _ _ _ _›, ?_⟩ | refine ⟨_, ‹wr _ _ _ _ _›, ?_⟩); (try (conv => cbv))))
      exact hQ _ _ _ (.inr ⟨p, q, hp, hq, ho⟩) _ (ext_low hA hlow e21 ev)
  refine below_ok hA lY dz dw (fun r hS hr eS => ⟨_, rfl, ?_⟩)
  have eB := eY.trans eS
  have lB := eB.lowOK hlow
  cases r with
  | true =>
    have lt := hr.1 rfl
    ((try (conv => cbv)); repeat (refine brk_ok hA ?_; (try (conv => cbv))))
    obtain ⟨h10, hh10⟩ : ∃ z, z = bump hS 8 := ⟨_, rfl⟩
    have e10 : Ext h h10 := by rw [hh10]; exact eB.trans (ext_bump hA _ _)
    have l10 := e10.lowOK hlow
    rw [← hh10]
    refine rest_ok hA (low_fresh hA h10) dw dz (Int.le_of_lt lt) (fun t0 t1 t2 t3 hU dT eU => ⟨_, _, _, _, rfl, ?_⟩)
    ((try (conv => cbv)); repeat (refine brk_ok hA ?_; (try (conv => cbv))))
    obtain ⟨hT, hhT⟩ : ∃ z, z = lowered h10 hU := ⟨_, rfl⟩
    have eT : Ext h hT := by rw [hhT]; exact ext_low hA hlow e10 eU
    rw [← hhT]
    ((try (conv => cbv)); repeat ((first | refine brk_ok hA ?_ | refine ⟨in_ok hA (by omega) (by omega), ?_⟩ | refine ⟨_, _, rfl, in_ok hA (by omega) (by omega), ?_⟩ | refine ⟨nz_ok hA (by omega), ?_⟩ | refine ⟨geZ_ok hA (by omega), ?_⟩ | refine ⟨ne_ok hA (by omega), ?_⟩ | refine ⟨wrote_no hA (by assumption), ?_⟩ | refine ⟨wrote_no hA (.refl _), ?_⟩ | refine ⟨_, ‹rd _ _ _ _ _›, ?_⟩ | refine ⟨_, _, ‹rd _ _ _ _ _›, ?_⟩ | refine ⟨_, _, _, _, ‹rd _ _ _ _ _›, ?_⟩ | refine ⟨_, ‹wr _ _ _ _ _›, ?_⟩); (try (conv => cbv))))
    obtain ⟨mi, hmi⟩ : ∃ z, z = cmp .lss m 0 := ⟨_, rfl⟩
    have key : ∀ k : Int, k = Int.gcd g ((B - A) % g) → (p + q).num = (if mi = true then -((B - A) / k) else (B - A) / k) ∧ ((p + q).den : Int) = E * (d / k) ∧ 0 < k ∧ k ≤ g ∧ 0 ≤ B - A := fun k hk => by
      obtain ⟨f1, f2, f3, f4, f5, _⟩ := add_prog hq hp (by rw [hg, Int.gcd_comm]) fB fA (T := B - A) (neg := mi) (.inr (.inl ⟨fun w => c w.symm, Int.le_of_lt lt, rfl, by rw [hmi, e_lss hA]; exact dec m⟩)) hk
      rw [Rat.add_comm]
      exact ⟨f1, by rw [f2, hE], f3, f4, f5⟩
    generalize B - A = T at *
    have lT := eT.lowOK hlow
    refine over_ok hA lT dT hgp (by omega) (fun _ _ _ _ r1 hO1 _ hr1 eO1 => ⟨_, _, _, _, _, rfl, ?_⟩)
    have eU1 := eT.trans eO1
    have lU1 := eU1.lowOK hlow
    ((try (conv => cbv)); repeat (refine brk_ok hA ?_; (try (conv => cbv))))
    have r10 : 0 ≤ r1 := by rw [hr1]; exact Int.emod_nonneg _ (by omega)
    have r11 : r1 < g := by rw [hr1]; exact Int.emod_lt_of_pos _ hgp
    refine rgcd_ok hA lU1 (by unfold u64; omega) (by unfold u64; omega) (fun k hk hO2 eO2 => ⟨_, rfl, ?_⟩)
    have eU2 := eU1.trans eO2
    have lU2 := eU2.lowOK hlow
    ((try (conv => cbv)); repeat (refine brk_ok hA ?_; (try (conv => cbv))))
    obtain ⟨f1, f2, f3, f4, f5⟩ := key k (by rw [hk, hr1, Int.gcd_comm])
    refine over_ok hA lU2 dT f3 (by omega) (fun y0 y1 y2 y3 _ hO3 dY _ eO3 => ⟨_, _, _, _, _, rfl, ?_⟩)
    have eU3 := eU2.trans eO3
    have lU3 := eU3.lowOK hlow
    ((try (conv => cbv)); repeat (refine brk_ok hA ?_; (try (conv => cbv))))
    obtain ⟨rb, hb1, hb2⟩ := eqB y0 y1 y2 y3
    rw [e_eqAgg hA]
    refine ⟨guardB, rb, hb1, ?_⟩
    obtain ⟨Y, hY⟩ : ∃ z, z = T / k := ⟨_, rfl⟩
    rw [← hY] at f1 dY
    have Y0 : 0 ≤ Y := by rw [hY]; exact Int.ediv_nonneg f5 (by omega)
    cases rb with
    | true =>
      ((try (conv => cbv)); repeat (refine brk_ok hA ?_; (try (conv => cbv))))
      have y0 : Y = 0 := by
        obtain ⟨g1, g2, g3, g4⟩ := hb2.1 rfl
        obtain ⟨g5, _⟩ := dY
        omega
      have s0 : p + q = 0 := Rat.num_eq_zero.1 (by rw [f1, y0]; split <;> rfl)
      exact hQ _ _ _ (.inr ⟨p, q, hp, hq, .inl ⟨by show fits (p + q); rw [s0]; exact ⟨by decide, by decide, by decide⟩, by show (0 : Int) = (p + q).num; rw [s0]; rfl, by show (1 : Int) = (p + q).den; rw [s0]; rfl, rfl⟩⟩) _ eU3
    | false =>
      ((try (conv => cbv)); repeat (refine brk_ok hA ?_; (try (conv => cbv))))
      obtain ⟨h20, hh20⟩ : ∃ z, z = bump hO3 20 := ⟨_, rfl⟩
      have e20 : Ext h h20 := by rw [hh20]; exact eU3.trans (ext_bump hA _ _)
      have l20 := e20.lowOK hlow
      rw [← hh20]
      have w3 : arith .quo .u64 e k = e / k := quoU hA ue.1 ue.2 f3
      have w4 : arith .quo .u64 d k = d / k := quoU hA ud.1 ud.2 f3
      have v3 := div_u64 ue f3
      have v4 := div_u64 ud f3
      generalize e / k = E2 at *
      generalize d / k = D2 at *
      refine ⟨nz_ok hA (by omega), ?_⟩
      ((try (conv => cbv)); repeat (refine brk_ok hA ?_; (try (conv => cbv))))
      first | rw [cd, w2] | rw [ce, w1]
      refine ⟨nz_ok hA (by omega), ?_⟩
      ((try (conv => cbv)); repeat (refine brk_ok hA ?_; (try (conv => cbv))))
      first | rw [ce, w3] | rw [cd, w4]
      refine product4_ok hA (low_fresh hA h20) (by first | exact v2 | exact v1) (by first | exact v3 | exact v4) (fun u0 u1 u2 u3 hu du eu => ⟨_, _, _, _, rfl, ?_⟩)
      ((try (conv => cbv)); repeat (refine brk_ok hA ?_; (try (conv => cbv))))
      obtain ⟨h21, hh21⟩ : ∃ z, z = lowered h20 hu := ⟨_, rfl⟩
      have e21 : Ext h h21 := by rw [hh21]; exact ext_low hA hlow e20 eu
      rw [← hh21, ← hmi]
      refine lowest_ok hA (low_fresh hA h21) dY du f1 f2 (fun n' d' e' hv ho ev => ⟨_, _, _, rfl, ?_⟩)
      ((try (conv => cbv)); repeat ((first | refine brk_ok hA ?_ | refine ⟨in_ok hA (by omega) (by omega), ?_⟩ | refine ⟨_, _, rfl, in_ok hA (by omega) (by omega), ?_⟩ | refine ⟨nz_ok hA (by omega), ?_⟩ | refine ⟨geZ_ok hA (by omega), ?_⟩ | refine ⟨ne_ok hA (by omega), ?_⟩ | refine ⟨wrote_no hA (by assumption), ?_⟩ | refine ⟨wrote_no hA (.refl _), ?_⟩ | refine ⟨_, ‹rd _ _ _ _ _›, ?_⟩ | refine ⟨_, _, ‹rd _ _ _ _ _›, ?_⟩ | refine ⟨_, _, _, _, ‹rd _ _ _ _ _›, ?_⟩ | refine ⟨_, ‹wr _ _ _ _ _›, ?_⟩); (try (conv => cbv))))
      exact hQ _ _ _ (.inr ⟨p, q, hp, hq, ho⟩) _ (ext_low hA hlow e21 ev)
  | false =>
    have lt : B ≤ A := by
      by_cases w : A < B
      · have := hr.2 w; cases this
      · omega
    ((try (conv => cbv)); repeat (refine brk_ok hA ?_; (try (conv => cbv))))
    refine rest_ok hA lB dz dw lt (fun t0 t1 t2 t3 hU dT eU => ⟨_, _, _, _, rfl, ?_⟩)
    ((try (conv => cbv)); repeat (refine brk_ok hA ?_; (try (conv => cbv))))
    have eT := eB.trans eU
    obtain ⟨mi, hmi⟩ : ∃ z, z = cmp .lss n 0 := ⟨_, rfl⟩
    have key : ∀ k : Int, k = Int.gcd g ((A - B) % g) → (p + q).num = (if mi = true then -((A - B) / k) else (A - B) / k) ∧ ((p + q).den : Int) = D * (e / k) ∧ 0 < k ∧ k ≤ g ∧ 0 ≤ A - B := fun k hk => by
      obtain ⟨f1, f2, f3, f4, f5, _⟩ := add_prog hp hq hg fA fB (T := A - B) (neg := mi) (.inr (.inl ⟨c, lt, rfl, by rw [hmi, e_lss hA]; exact dec n⟩)) hk
      exact ⟨f1, by rw [f2, hD], f3, f4, f5⟩
    generalize A - B = T at *
    have lT := eT.lowOK hlow
    refine over_ok hA lT dT hgp (by omega) (fun _ _ _ _ r1 hO1 _ hr1 eO1 => ⟨_, _, _, _, _, rfl, ?_⟩)
    have eU1 := eT.trans eO1
    have lU1 := eU1.lowOK hlow
    ((try (conv => cbv)); repeat (refine brk_ok hA ?_; (try (conv => cbv))))
    have r10 : 0 ≤ r1 := by rw [hr1]; exact Int.emod_nonneg _ (by omega)
    have r11 : r1 < g := by rw [hr1]; exact Int.emod_lt_of_pos _ hgp
    refine rgcd_ok hA lU1 (by unfold u64; omega) (by unfold u64; omega) (fun k hk hO2 eO2 => ⟨_, rfl, ?_⟩)
    have eU2 := eU1.trans eO2
    have lU2 := eU2.lowOK hlow
    ((try (conv => cbv)); repeat (refine brk_ok hA ?_; (try (conv => cbv))))
    obtain ⟨f1, f2, f3, f4, f5⟩ := key k (by rw [hk, hr1, Int.gcd_comm])
    refine over_ok hA lU2 dT f3 (by omega) (fun y0 y1 y2 y3 _ hO3 dY _ eO3 => ⟨_, _, _, _, _, rfl, ?_⟩)
    have eU3 := eU2.trans eO3
    have lU3 := eU3.lowOK hlow
    ((try (conv => cbv)); repeat (refine brk_ok hA ?_; (try (conv => cbv))))
    obtain ⟨rb, hb1, hb2⟩ := eqB y0 y1 y2 y3
    rw [e_eqAgg hA]
    refine ⟨guardB, rb, hb1, ?_⟩
    obtain ⟨Y, hY⟩ : ∃ z, z = T / k := ⟨_, rfl⟩
    rw [← hY] at f1 dY
    have Y0 : 0 ≤ Y := by rw [hY]; exact Int.ediv_nonneg f5 (by omega)
    cases rb with
    | true =>
      ((try (conv => cbv)); repeat (refine brk_ok hA ?_; (try (conv => cbv))))
      have y0 : Y = 0 := by
        obtain ⟨g1, g2, g3, g4⟩ := hb2.1 rfl
        obtain ⟨g5, _⟩ := dY
        omega
      have s0 : p + q = 0 := Rat.num_eq_zero.1 (by rw [f1, y0]; split <;> rfl)
      exact hQ _ _ _ (.inr ⟨p, q, hp, hq, .inl ⟨by show fits (p + q); rw [s0]; exact ⟨by decide, by decide, by decide⟩, by show (0 : Int) = (p + q).num; rw [s0]; rfl, by show (1 : Int) = (p + q).den; rw [s0]; rfl, rfl⟩⟩) _ eU3
    | false =>
      ((try (conv => cbv)); repeat (refine brk_ok hA ?_; (try (conv => cbv))))
      obtain ⟨h20, hh20⟩ : ∃ z, z = bump hO3 20 := ⟨_, rfl⟩
      have e20 : Ext h h20 := by rw [hh20]; exact eU3.trans (ext_bump hA _ _)
      have l20 := e20.lowOK hlow
      rw [← hh20]
      have w3 : arith .quo .u64 e k = e / k := quoU hA ue.1 ue.2 f3
      have w4 : arith .quo .u64 d k = d / k := quoU hA ud.1 ud.2 f3
      have v3 := div_u64 ue f3
      have v4 := div_u64 ud f3
      generalize e / k = E2 at *
      generalize d / k = D2 at *
      refine ⟨nz_ok hA (by omega), ?_⟩
      ((try (conv => cbv)); repeat (refine brk_ok hA ?_; (try (conv => cbv))))
      first | rw [cd, w2] | rw [ce, w1]
      refine ⟨nz_ok hA (by omega), ?_⟩
      ((try (conv => cbv)); repeat (refine brk_ok hA ?_; (try (conv => cbv))))
      first | rw [ce, w3] | rw [cd, w4]
      refine product4_ok hA (low_fresh hA h20) (by first | exact v2 | exact v1) (by first | exact v3 | exact v4) (fun u0 u1 u2 u3 hu du eu => ⟨_, _, _, _, rfl, ?_⟩)
      ((try (conv => cbv)); repeat (refine brk_ok hA ?_; (try (conv => cbv))))
      obtain ⟨h21, hh21⟩ : ∃ z, z = lowered h20 hu := ⟨_, rfl⟩
      have e21 : Ext h h21 := by rw [hh21]; exact ext_low hA hlow e20 eu
      rw [← hh21, ← hmi]
      refine lowest_ok hA (low_fresh hA h21) dY du f1 f2 (fun n' d' e' hv ho ev => ⟨_, _, _, rfl, ?_⟩)
      ((try (conv => cbv)); repeat ((first | refine brk_ok hA ?_ | refine ⟨in_ok hA (by omega) (by omega), ?_⟩ | refine ⟨_, _, rfl, in_ok hA (by omega) (by omega), ?_⟩ | refine ⟨nz_ok hA (by omega), ?_⟩ | refine ⟨geZ_ok hA (by omega), ?_⟩ | refine ⟨ne_ok hA (by omega), ?_⟩ | refine ⟨wrote_no hA (by assumption), ?_⟩ | refine ⟨wrote_no hA (.refl _), ?_⟩ | refine ⟨_, ‹rd _ _ _ _ _›, ?_⟩ | refine ⟨_, _, ‹rd _ _ _ _ _›, ?_⟩ | refine ⟨_, _, _, _, ‹rd _ _ _ _ _›, ?_⟩ | refine ⟨_, ‹wr _ _ _ _ _›, ?_⟩); (try (conv => cbv))))
      exact hQ _ _ _ (.inr ⟨p, q, hp, hq, ho⟩) _ (ext_low hA hlow e21 ev)

theorem rneg_ok {h : AHeap} (hlow : h.low ≤ h.next) {n d : Int} (h0 : -1000000000000000000 ≤ n) (h1 : n ≤ 1000000000000000000) {Q : Value → AHeap → Prop} (hQ : Q (.agg #[.int .i64 (-n), .int .i64 d]) h) : call 85 [.agg #[.int .i64 n, .int .i64 d]] h Q := by
  refine hA.bodyR Try.func85 r85_ok (hA.alike _ _ _ rfl) hlow ?_; (try (conv => cbv)); repeat (refine brk_ok hA ?_; (try (conv => cbv)))
  rw [show neg .i64 n = -n by rw [e_neg hA, wrap64 (by omega) (by omega)]; omega]
  exact hQ

theorem rsub_ok {h : AHeap} (hlow : h.low ≤ h.next) {n d m e : Int} (hn : i64 n) (hd : i64 d) (hm : i64 m) (he : i64 e) {Q : Value → AHeap → Prop}
    (hQ : ∀ a b r, OpIs (· - ·) n d m e a b r → ∀ h', Ext h h' → Q (.tuple #[.agg #[.int .i64 a, .int .i64 b], .int .i64 r]) h') : call 72 [.agg #[.int .i64 n, .int .i64 d], .agg #[.int .i64 m, .int .i64 e]] h Q := by
  refine hA.bodyR Try.func72 r72_ok (hA.alike _ _ _ rfl) hlow ?_; (try (conv => cbv)); repeat (refine brk_ok hA ?_; (try (conv => cbv)))
  refine rboth_ok hA hlow hn hd hm he (fun r1 h1 k1 x1 => ⟨_, rfl, ?_⟩)
  ((try (conv => cbv)); repeat (refine brk_ok hA ?_; (try (conv => cbv))))
  refine br (r1 ≠ 0) (by rw [e_neq hA]) (fun c1 => ?_) (fun c1 => ?_) <;> (try (conv => cbv)) <;> repeat (refine brk_ok hA ?_; (try (conv => cbv)))
  · refine rboth_ok hA (x1.lowOK hlow) hn hd hm he (fun r3 h3 k3 x3 => ⟨_, rfl, ?_⟩)
    ((try (conv => cbv)); repeat (refine brk_ok hA ?_; (try (conv => cbv))))
    rcases k1 with ⟨q, _⟩ | ⟨rfl, q⟩
    · exact absurd q c1
    · rcases k3 with ⟨_, q3⟩ | ⟨rfl, _⟩
      · exact absurd q3 q
      · exact hQ _ _ _ (.inl ⟨q, rfl, rfl, rfl⟩) _ (x1.trans x3)
  rcases k1 with ⟨_, ⟨p, hp⟩, q, hq⟩ | ⟨q, _⟩
  rotate_left
  · omega
  have hg := hq.neg
  obtain ⟨h9, hh9⟩ : ∃ z, z = bump h1 8 := ⟨_, rfl⟩
  have e9 : Ext h h9 := by rw [hh9]; exact x1.trans (ext_bump hA _ _)
  have l9 := e9.lowOK hlow
  rw [← hh9]
  have b1 := hq.1 ▸ hq.2.2.1
  have b2 := hq.1 ▸ hq.2.2.2.1
  refine rneg_ok hA (low_fresh hA h9) b1 b2 ⟨_, _, rfl, ?_⟩
  ((try (conv => cbv)); repeat (refine brk_ok hA ?_; (try (conv => cbv))))
  rw [low_same hA l9]
  refine radd_ok hA (low_fresh hA h9) hn hd hg.i64n hg.i64d (fun a b r ho hz ez => ⟨_, _, _, rfl, ?_⟩)
  ((try (conv => cbv)); repeat ((first | refine brk_ok hA ?_ | refine ⟨in_ok hA (by omega) (by omega), ?_⟩ | refine ⟨_, _, rfl, in_ok hA (by omega) (by omega), ?_⟩ | refine ⟨nz_ok hA (by omega), ?_⟩ | refine ⟨geZ_ok hA (by omega), ?_⟩ | refine ⟨ne_ok hA (by omega), ?_⟩ | refine ⟨wrote_no hA (by assumption), ?_⟩ | refine ⟨wrote_no hA (.refl _), ?_⟩ | refine ⟨_, ‹rd _ _ _ _ _›, ?_⟩ | refine ⟨_, _, ‹rd _ _ _ _ _›, ?_⟩ | refine ⟨_, _, _, _, ‹rd _ _ _ _ _›, ?_⟩ | refine ⟨_, ‹wr _ _ _ _ _›, ?_⟩); (try (conv => cbv))))
  refine hQ a b r (.inr ⟨p, q, hp, hq, ?_⟩) _ (ext_low hA hlow e9 ez)
  rcases ho with ⟨w, _⟩ | ⟨p', q', hp', hq', ho⟩
  · exact absurd ⟨⟨p, hp⟩, ⟨-q, hg⟩⟩ w
  · obtain rfl := hp.uniq hp'
    obtain rfl := hg.uniq hq'
    show outF (p - q) a b r
    rw [Rat.sub_eq_add_neg]
    exact ho

end Go.Proofs.Ytnokkniofajnhaa
