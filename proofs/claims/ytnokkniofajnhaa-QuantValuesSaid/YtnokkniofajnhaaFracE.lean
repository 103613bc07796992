/-
  frac: products and quotients.
-/
import Derived.Test.YtnokkniofajnhaaFracD
namespace Go.Proofs.Ytnokkniofajnhaa
open Go.Sim
set_option linter.unusedVariables false
set_option maxRecDepth 100000

theorem div_u64 {a b : Int} (ha : u64 a) (hb : 0 < b) : u64 (a / b) := by
  obtain ⟨h0, h1⟩ := ha
  have h2 : a / b ≤ a := Int.ediv_le_self b h0
  exact ⟨Int.ediv_nonneg h0 (by omega), by omega⟩

variable {F : Prims}
  {call : FuncId → List Value → AHeap → (Value → AHeap → Prop) → Prop}
  {head : FuncId → Nat → Nat → SS → (Exit → SS → Prop) → Prop}
  {arith : BinOp → IntKind → Int → Int → Int}
  {cmp : BinOp → Int → Int → Bool}
  {scmp : BinOp → ByteArray → ByteArray → Bool}
  {bnot : Bool → Bool}
  {bsame : Bool → Bool → Bool}
  {conv : IntKind → Int → Int}
  {neg : IntKind → Int → Int}
  {imax : Int → Int → Int}
  {imin : Int → Int → Int}
  {ofNat : Nat → Int}
  {slen : ByteArray → Int}
  {place : Nat → Int → Nat → Nat}
  {inR : Int → Nat → Prop}
  {nz : Int → Prop}
  {geZ : Int → Prop}
  {rd : AHeap → Nat → Nat → Nat → List Value → Prop}
  {wr : AHeap → Nat → Nat → List Value → AHeap → Prop}
  {push : AHeap → Nat → List Value → AHeap}
  {next : AHeap → Nat}
  {mkOK : Int → Int → Prop}
  {nat : Int → Nat}
  {zeros : List Value → Int → List Value}
  {sadd : ByteArray → ByteArray → (ByteArray → Prop) → Prop}
  {eqAgg : TypeId → Array Value → Array Value → (Bool → Prop) → Prop}
  {cut : Nat → Int → Prop}
  {slc : TypeId → Value → Option Value → Option Value → Option Value → (Option Addr → Nat → Nat → Prop) → Prop}
  {sslc : TypeId → ByteArray → Option Value → Option Value → (ByteArray → Prop) → Prop}
  {strAt : ByteArray → Int → (Int → Prop) → Prop}
  {part : TypeId → Array Value → Nat → Value → Prop}
  {app : List TypeId → List Value → AHeap → (Option Addr → Nat → Nat → AHeap → Prop) → Prop}
  {cpy : List TypeId → List Value → AHeap → (Int → AHeap → Prop) → Prop}
  {putAt : AHeap → Nat → Nat → List Value → AHeap}
  {fresh : AHeap → AHeap}
  {lowered : AHeap → AHeap → AHeap}
  {bump : AHeap → Nat → AHeap}
  {wrote : AHeap → AHeap → Bool}
  {addN : Nat → Nat → Nat}
  {lt : Nat → Nat → Prop}
  {ne : Nat → Nat → Prop}
  {fpAll : Bool → Bool → Bool → Nat → Nat → Prop}
  {brk : (Unit → Prop) → Prop}
  {yn : Nat → Nat}
  {rng : FuncId → Nat → SS → (Exit → SS → Prop) → Prop}
  {mget : TypeId → Value → Value → AHeap → Value → Bool → Prop}
  {mput : TypeId → Value → Value → Value → AHeap → AHeap → Prop}
  {mnew : AHeap → AHeap}
  {bytes : TypeId → TypeId → Option Addr → Nat → AHeap → ByteArray → Prop}
  {clr : List TypeId → List Value → AHeap → AHeap → Prop}
  (hA : AP F ⟨call, head, arith, cmp, scmp, bnot, bsame, conv, neg, imax, imin, ofNat, slen, place, inR, nz, geZ, rd, wr, push, next, mkOK, nat, zeros, sadd, eqAgg, cut, slc, sslc, strAt, part, app, cpy, putAt, fresh, lowered, bump, wrote, addN, lt, ne, fpAll, brk, yn, rng, mget, mput, mnew, bytes, clr⟩)
include hA

theorem product_ok {h : AHeap} (hlow : h.low ≤ h.next) {n d m e : Int} {p q : Rat} (hp : isF n d p) (hq : isF m e q) {Q : Value → AHeap → Prop}
    (hQ : ∀ a b r, outF (p * q) a b r → ∀ h', Ext h h' → Q (.tuple #[.agg #[.int .i64 a, .int .i64 b], .int .i64 r]) h') : call 64 [.agg #[.int .i64 n, .int .i64 d], .agg #[.int .i64 m, .int .i64 e]] h Q := by
  have pd := hp.den
  have qd := hq.den
  have in64 := hp.i64n
  have id64 := hp.i64d
  have im64 := hq.i64n
  have ie64 := hq.i64d
  refine hA.bodyR Try.func64 r64_ok (hA.alike _ _ _ rfl) hlow ?_; (try (conv => cbv)); repeat (refine brk_ok hA ?_; (try (conv => cbv)))
  obtain ⟨h9, hh9⟩ : ∃ z, z = bump h 16 := ⟨_, rfl⟩
  have e9 : Ext h h9 := by rw [hh9]; exact ext_bump hA _ _
  have l9 := e9.lowOK hlow
  rw [← hh9]
  ((try (conv => cbv)); repeat (refine brk_ok hA ?_; (try (conv => cbv))))
  refine size_ok hA (low_fresh hA h9) in64 (fun s1 hs1 => ⟨_, rfl, ?_⟩)
  ((try (conv => cbv)); repeat (refine brk_ok hA ?_; (try (conv => cbv))))
  rw [low_same hA l9]
  refine size_ok hA (low_fresh hA h9) id64 (fun s2 hs2 => ⟨_, rfl, ?_⟩)
  ((try (conv => cbv)); repeat (refine brk_ok hA ?_; (try (conv => cbv))))
  rw [low_same hA l9]
  refine size_ok hA (low_fresh hA h9) im64 (fun s3 hs3 => ⟨_, rfl, ?_⟩)
  ((try (conv => cbv)); repeat (refine brk_ok hA ?_; (try (conv => cbv))))
  rw [low_same hA l9]
  refine size_ok hA (low_fresh hA h9) ie64 (fun s4 hs4 => ⟨_, rfl, ?_⟩)
  ((try (conv => cbv)); repeat (refine brk_ok hA ?_; (try (conv => cbv))))
  rw [low_same hA l9]
  have z1 : u64 s1 := by unfold u64; unfold i64 at in64; omega
  have z2 : u64 s2 := by unfold u64; unfold i64 at id64; omega
  have z3 : u64 s3 := by unfold u64; unfold i64 at im64; omega
  have z4 : u64 s4 := by unfold u64; unfold i64 at ie64; omega
  have y2 : s2 = d := by omega
  have y4 : s4 = e := by omega
  refine gcd_ok hA l9 z1 z4 (fun g hg h10 x10 => ⟨_, rfl, ?_⟩)
  have e10 := e9.trans x10
  have l10 := e10.lowOK hlow
  ((try (conv => cbv)); repeat (refine brk_ok hA ?_; (try (conv => cbv))))
  refine gcd_ok hA l10 z3 z2 (fun k hk h11 x11 => ⟨_, rfl, ?_⟩)
  have e11 := e10.trans x11
  have l11 := e11.lowOK hlow
  obtain ⟨mi, hmi⟩ : ∃ z, z = bnot (bsame (cmp .lss n 0) (cmp .lss m 0)) := ⟨_, rfl⟩
  have hs2' := signs_ok hA n m
  rw [← hmi] at hs2'
  obtain ⟨k1, k2, k3, k4, k5, k6⟩ := mul_prog hp hq (g := g) (h := k) (by rw [hg, hs1, y4]) (by rw [hk, hs3, y2]) hs2'
  rw [← hs1, ← hs3] at k1
  rw [← y2, ← y4] at k2
  ((try (conv => cbv)); repeat (refine brk_ok hA ?_; (try (conv => cbv))))
  obtain ⟨h12, hh12⟩ : ∃ z, z = bump h11 12 := ⟨_, rfl⟩
  have e12 : Ext h h12 := by rw [hh12]; exact e11.trans (ext_bump hA _ _)
  have l12 := e12.lowOK hlow
  rw [← hh12]
  refine ⟨nz_ok hA (by omega), ?_⟩
  ((try (conv => cbv)); repeat (refine brk_ok hA ?_; (try (conv => cbv))))
  refine ⟨nz_ok hA (by omega), ?_⟩
  ((try (conv => cbv)); repeat (refine brk_ok hA ?_; (try (conv => cbv))))
  rw [quoU hA z1.1 z1.2 k3, quoU hA z3.1 z3.2 k5]
  have v1 := div_u64 z1 k3
  have v2 := div_u64 z3 k5
  have v3 := div_u64 z2 k5
  have v4 := div_u64 z4 k3
  have w2 : arith .quo .u64 s2 k = s2 / k := quoU hA z2.1 z2.2 k5
  have w4 : arith .quo .u64 s4 g = s4 / g := quoU hA z4.1 z4.2 k3
  generalize s1 / g = q1 at *
  generalize s3 / k = q3 at *
  generalize s2 / k = q2 at *
  generalize s4 / g = q4 at *
  ((try (conv => cbv)); repeat (refine brk_ok hA ?_; (try (conv => cbv))))
  refine mul64_ok hA (low_fresh hA h12) v1 v2 (fun hi lo f1 f2 => ⟨_, _, rfl, ?_⟩)
  ((try (conv => cbv)); repeat (refine brk_ok hA ?_; (try (conv => cbv))))
  rw [low_same hA l12]
  obtain ⟨h13, hh13⟩ : ∃ z, z = bump h12 12 := ⟨_, rfl⟩
  have e13 : Ext h h13 := by rw [hh13]; exact e12.trans (ext_bump hA _ _)
  have l13 := e13.lowOK hlow
  rw [← hh13]
  refine ⟨nz_ok hA (by omega), ?_⟩
  ((try (conv => cbv)); repeat (refine brk_ok hA ?_; (try (conv => cbv))))
  refine ⟨nz_ok hA (by omega), ?_⟩
  ((try (conv => cbv)); repeat (refine brk_ok hA ?_; (try (conv => cbv))))
  rw [w2, w4]
  refine mul64_ok hA (low_fresh hA h13) v3 v4 (fun hi2 lo2 f3 f4 => ⟨_, _, rfl, ?_⟩)
  ((try (conv => cbv)); repeat (refine brk_ok hA ?_; (try (conv => cbv))))
  rw [low_same hA l13]
  obtain ⟨N, hN⟩ : ∃ z, z = q1 * q3 := ⟨_, rfl⟩
  obtain ⟨D, hD⟩ : ∃ z, z = q2 * q4 := ⟨_, rfl⟩
  have N0 : 0 ≤ N := by rw [hN]; exact Int.mul_nonneg v1.1 v2.1
  have D0 : 0 ≤ D := by rw [hD]; exact Int.mul_nonneg v3.1 v4.1
  rw [← hN] at k1 f1 f2
  rw [← hD] at k2 f3 f4
  have hf : fits (p * q) ↔ N ≤ 1000000000000000000 ∧ D ≤ 1000000000000000000 := by
    unfold fits
    rw [k1, k2]
    split <;> omega
  refine br (hi ≠ 0) (by rw [e_neq hA]) (fun c1 => ?_) (fun c1 => ?_) <;> (try (conv => cbv)) <;> repeat (refine brk_ok hA ?_; (try (conv => cbv)))
  · exact hQ _ _ _ (.inr ⟨fun w => by have := hf.1 w; omega, rfl, rfl, rfl⟩) _ e13
  refine br (hi2 ≠ 0) (by rw [e_neq hA]) (fun c2 => ?_) (fun c2 => ?_) <;> (try (conv => cbv)) <;> repeat (refine brk_ok hA ?_; (try (conv => cbv)))
  · exact hQ _ _ _ (.inr ⟨fun w => by have := hf.1 w; omega, rfl, rfl, rfl⟩) _ e13
  rw [← hmi]
  have hlo : lo = N := by omega
  have hlo2 : lo2 = D := by omega
  refine build_ok hA l13 (q := p * q) (by unfold u64; omega) (by unfold u64; omega) (by rw [hlo]; exact k1) (by rw [hlo2]; exact k2) (fun a b r ho => ⟨_, _, _, rfl, ?_⟩)
  ((try (conv => cbv)); repeat (refine brk_ok hA ?_; (try (conv => cbv))))
  exact hQ a b r ho _ e13

/-- What Mul answers. -/
def OpIs (f : Rat → Rat → Rat) (n d m e a b r : Int) : Prop := (¬ (okF n d ∧ okF m e) ∧ a = 0 ∧ b = 0 ∧ r = 8) ∨ ∃ p q, isF n d p ∧ isF m e q ∧ outF (f p q) a b r
def DivIs (n d m e a b r : Int) : Prop := (¬ (okF n d ∧ okF m e) ∧ a = 0 ∧ b = 0 ∧ r = 8) ∨ (okF n d ∧ okF m e ∧ m = 0 ∧ a = 0 ∧ b = 0 ∧ r = 18) ∨ ∃ p q, isF n d p ∧ isF m e q ∧ m ≠ 0 ∧ outF (p / q) a b r

theorem mul_ok {h : AHeap} (hlow : h.low ≤ h.next) {n d m e : Int} (hn : i64 n) (hd : i64 d) (hm : i64 m) (he : i64 e) {Q : Value → AHeap → Prop}
    (hQ : ∀ a b r, OpIs (· * ·) n d m e a b r → ∀ h', Ext h h' → Q (.tuple #[.agg #[.int .i64 a, .int .i64 b], .int .i64 r]) h') : call 57 [.agg #[.int .i64 n, .int .i64 d], .agg #[.int .i64 m, .int .i64 e]] h Q := by
  refine hA.bodyR Try.func57 r57_ok (hA.alike _ _ _ rfl) hlow ?_; (try (conv => cbv)); repeat (refine brk_ok hA ?_; (try (conv => cbv)))
  refine both_ok hA hlow hn hd hm he (fun r1 h1 k1 x1 => ⟨_, rfl, ?_⟩)
  ((try (conv => cbv)); repeat (refine brk_ok hA ?_; (try (conv => cbv))))
  refine br (r1 ≠ 0) (by rw [e_neq hA]) (fun c1 => ?_) (fun c1 => ?_) <;> (try (conv => cbv)) <;> repeat (refine brk_ok hA ?_; (try (conv => cbv)))
  · rcases k1 with ⟨q, _⟩ | ⟨rfl, q⟩
    · exact absurd q c1
    · exact hQ _ _ _ (.inl ⟨q, rfl, rfl, rfl⟩) _ x1
  rcases k1 with ⟨_, ⟨p, hp⟩, q, hq⟩ | ⟨q, _⟩
  · refine product_ok hA (x1.lowOK hlow) hp hq (fun a b r ho h2 x2 => ⟨_, _, _, rfl, ?_⟩)
    ((try (conv => cbv)); repeat (refine brk_ok hA ?_; (try (conv => cbv))))
    exact hQ _ _ _ (.inr ⟨p, q, hp, hq, ho⟩) _ (x1.trans x2)
  · omega

theorem div_ok {h : AHeap} (hlow : h.low ≤ h.next) {n d m e : Int} (hn : i64 n) (hd : i64 d) (hm : i64 m) (he : i64 e) {Q : Value → AHeap → Prop}
    (hQ : ∀ a b r, DivIs n d m e a b r → ∀ h', Ext h h' → Q (.tuple #[.agg #[.int .i64 a, .int .i64 b], .int .i64 r]) h') : call 43 [.agg #[.int .i64 n, .int .i64 d], .agg #[.int .i64 m, .int .i64 e]] h Q := by
  refine hA.bodyR Try.func43 r43_ok (hA.alike _ _ _ rfl) hlow ?_; (try (conv => cbv)); repeat (refine brk_ok hA ?_; (try (conv => cbv)))
  refine both_ok hA hlow hn hd hm he (fun r1 h1 k1 x1 => ⟨_, rfl, ?_⟩)
  ((try (conv => cbv)); repeat (refine brk_ok hA ?_; (try (conv => cbv))))
  refine br (r1 ≠ 0) (by rw [e_neq hA]) (fun c1 => ?_) (fun c1 => ?_) <;> (try (conv => cbv)) <;> repeat (refine brk_ok hA ?_; (try (conv => cbv)))
  · rcases k1 with ⟨q, _⟩ | ⟨rfl, q⟩
    · exact absurd q c1
    · exact hQ _ _ _ (.inl ⟨q, rfl, rfl, rfl⟩) _ x1
  rcases k1 with ⟨_, ⟨p, hp⟩, q, hq⟩ | ⟨q, _⟩
  rotate_left
  · omega
  refine br (m = 0) (by rw [e_eql hA]) (fun c2 => ?_) (fun c2 => ?_) <;> (try (conv => cbv)) <;> repeat (refine brk_ok hA ?_; (try (conv => cbv)))
  · exact hQ _ _ _ (.inr (.inl ⟨⟨p, hp⟩, ⟨q, hq⟩, c2, rfl, rfl, rfl⟩)) _ x1
  have hi := hq.inv c2
  have q1 := hq.i64n
  have q2 := hq.i64d
  have q3 := hq.den
  refine br (m < 0) (by rw [e_lss hA]) (fun c3 => ?_) (fun c3 => ?_) <;> (try (conv => cbv)) <;> repeat (refine brk_ok hA ?_; (try (conv => cbv)))
  · rw [if_pos c3, if_pos c3] at hi
    have e1 : neg .i64 e = -e := by rw [e_neg hA, wrap64 (by unfold i64 at q2; omega) (by unfold i64 at q2; omega)]; omega
    have e2 : neg .i64 m = -m := by
      obtain ⟨_, _, h1, _⟩ := hq
      rw [e_neg hA, wrap64 (by omega) (by omega)]; omega
    rw [e1, e2]
    refine product_ok hA (x1.lowOK hlow) hp hi (fun a b r ho h2 x2 => ⟨_, _, _, rfl, ?_⟩)
    ((try (conv => cbv)); repeat (refine brk_ok hA ?_; (try (conv => cbv))))
    exact hQ _ _ _ (.inr (.inr ⟨p, q, hp, hq, c2, by rw [Rat.div_def]; exact ho⟩)) _ (x1.trans x2)
  · rw [if_neg c3, if_neg c3] at hi
    refine product_ok hA (x1.lowOK hlow) hp hi (fun a b r ho h2 x2 => ⟨_, _, _, rfl, ?_⟩)
    ((try (conv => cbv)); repeat (refine brk_ok hA ?_; (try (conv => cbv))))
    exact hQ _ _ _ (.inr (.inr ⟨p, q, hp, hq, c2, by rw [Rat.div_def]; exact ho⟩)) _ (x1.trans x2)

end Go.Proofs.Ytnokkniofajnhaa
