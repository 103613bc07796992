/-
  frac: what its functions return (numbers of 64 bits, divisors, the fraction of two numbers).
-/
import Derived.Test.YtnokkniofajnhaaSymBits
import Derived.Test.YtnokkniofajnhaaFracB
namespace Go.Proofs.Ytnokkniofajnhaa
open Go.Sim
set_option linter.unusedVariables false
set_option maxRecDepth 100000

def i64 (n : Int) : Prop := -9223372036854775808 ≤ n ∧ n < 9223372036854775808
def u64 (n : Int) : Prop := 0 ≤ n ∧ n < 18446744073709551616
theorem gcd_rem {a b : Int} (hb : 0 ≤ b) (ha : 0 ≤ a) : Int.gcd b (a % b) = Int.gcd a b := by
  have m0 : 0 ≤ a % b := by
    by_cases h : b = 0
    · rw [h, Int.emod_zero]; exact ha
    · exact Int.emod_nonneg _ h
  rw [gcd_nat hb m0, gcd_nat ha hb]
  have e : (a % b).toNat = a.toNat % b.toNat := by
    have : ((a.toNat % b.toNat : Nat) : Int) = a % b := by
      rw [Int.natCast_emod, Int.toNat_of_nonneg ha, Int.toNat_of_nonneg hb]
    omega
  rw [e, Nat.gcd_comm, ← Nat.gcd_rec, Nat.gcd_comm]
theorem gcd_u64 {a b : Int} (ha : u64 a) (hb : u64 b) : u64 (Int.gcd a b) := by
  unfold u64 at *
  have := Nat.gcd_le_left b.toNat (m := a.toNat)
  rw [gcd_nat ha.1 hb.1]
  by_cases h : a = 0
  · rw [h]; simp; omega
  · have := this (by omega); omega

variable {F : Prims}
  {call : FuncId → List Value → AHeap → (Value → AHeap → Prop) → Prop}
  {head : FuncId → Nat → Nat → SS → (Exit → SS → Prop) → Prop}
  {arith : BinOp → IntKind → Int → Int → Int}
  {cmp : BinOp → Int → Int → Bool}
  {scmp : BinOp → ByteArray → ByteArray → Bool}
  {bnot : Bool → Bool}
  {bsame : Bool → Bool → Bool}
  {conv : IntKind → Int → Int}
  {neg : IntKind → Int → Int}
  {imax : Int → Int → Int}
  {imin : Int → Int → Int}
  {ofNat : Nat → Int}
  {slen : ByteArray → Int}
  {place : Nat → Int → Nat → Nat}
  {inR : Int → Nat → Prop}
  {nz : Int → Prop}
  {geZ : Int → Prop}
  {rd : AHeap → Nat → Nat → Nat → List Value → Prop}
  {wr : AHeap → Nat → Nat → List Value → AHeap → Prop}
  {push : AHeap → Nat → List Value → AHeap}
  {next : AHeap → Nat}
  {mkOK : Int → Int → Prop}
  {nat : Int → Nat}
  {zeros : List Value → Int → List Value}
  {sadd : ByteArray → ByteArray → (ByteArray → Prop) → Prop}
  {eqAgg : TypeId → Array Value → Array Value → (Bool → Prop) → Prop}
  {cut : Nat → Int → Prop}
  {slc : TypeId → Value → Option Value → Option Value → Option Value → (Option Addr → Nat → Nat → Prop) → Prop}
  {sslc : TypeId → ByteArray → Option Value → Option Value → (ByteArray → Prop) → Prop}
  {strAt : ByteArray → Int → (Int → Prop) → Prop}
  {part : TypeId → Array Value → Nat → Value → Prop}
  {app : List TypeId → List Value → AHeap → (Option Addr → Nat → Nat → AHeap → Prop) → Prop}
  {cpy : List TypeId → List Value → AHeap → (Int → AHeap → Prop) → Prop}
  {putAt : AHeap → Nat → Nat → List Value → AHeap}
  {fresh : AHeap → AHeap}
  {lowered : AHeap → AHeap → AHeap}
  {bump : AHeap → Nat → AHeap}
  {wrote : AHeap → AHeap → Bool}
  {addN : Nat → Nat → Nat}
  {lt : Nat → Nat → Prop}
  {ne : Nat → Nat → Prop}
  {fpAll : Bool → Bool → Bool → Nat → Nat → Prop}
  {brk : (Unit → Prop) → Prop}
  {yn : Nat → Nat}
  {rng : FuncId → Nat → SS → (Exit → SS → Prop) → Prop}
  {mget : TypeId → Value → Value → AHeap → Value → Bool → Prop}
  {mput : TypeId → Value → Value → Value → AHeap → AHeap → Prop}
  {mnew : AHeap → AHeap}
  {bytes : TypeId → TypeId → Option Addr → Nat → AHeap → ByteArray → Prop}
  {clr : List TypeId → List Value → AHeap → AHeap → Prop}
  (hA : AP F ⟨call, head, arith, cmp, scmp, bnot, bsame, conv, neg, imax, imin, ofNat, slen, place, inR, nz, geZ, rd, wr, push, next, mkOK, nat, zeros, sadd, eqAgg, cut, slc, sslc, strAt, part, app, cpy, putAt, fresh, lowered, bump, wrote, addN, lt, ne, fpAll, brk, yn, rng, mget, mput, mnew, bytes, clr⟩)
include hA

theorem size_ok {h : AHeap} (hlow : h.low ≤ h.next) {n : Int} (hn : i64 n) {Q : Value → AHeap → Prop} (hQ : ∀ s : Int, s = n.natAbs → Q (.int .u64 s) h) : call 54 [.int .i64 n] h Q := by
  obtain ⟨h0, h1⟩ := hn
  refine hA.bodyR Try.func54 r54_ok (hA.alike _ _ _ rfl) hlow ?_; (try (conv => cbv)); repeat (refine brk_ok hA ?_; (try (conv => cbv)))
  refine br (n < 0) (by rw [e_lss hA]) (fun c => ?_) (fun c => ?_) <;> (try (conv => cbv)) <;> repeat (refine brk_ok hA ?_; (try (conv => cbv)))
  · exact hQ _ (by rw [e_neg hA, e_conv hA, wrapUm, wrapUm]; omega)
  · exact hQ _ (by rw [e_conv hA, wrapUm]; omega)

theorem gcd_loop {h0 : AHeap} {Q : Exit → SS → Prop} : ∀ (m : Nat) (a b : Int) (h : AHeap), b.toNat ≤ m → u64 a → u64 b → Ext h0 h →
    (∀ g : Int, g = Int.gcd a b → ∀ e kn K h', Ext h0 h' → Q (.exit 0) ⟨(0, .int .u64 g) :: e, kn, K, h'⟩) → head 53 1 0 ⟨[(0, .int .u64 a), (1, .int .u64 b)], 0, [], h⟩ Q := by
  intro m
  induction m with
  | zero =>
    intro a b h hm ha hb he hQ
    have hb0 : b = 0 := by unfold u64 at hb; omega
    refine hA.roundR Try.func53 r53_ok ?_; (try (conv => cbv)); repeat (refine brk_ok hA ?_; (try (conv => cbv)))
    refine br (b ≠ 0) (by rw [e_neq hA]) (fun c => absurd hb0 c) (fun c => ?_) <;> (try (conv => cbv)) <;> repeat (refine brk_ok hA ?_; (try (conv => cbv)))
    exact hQ a (by rw [hb0]; unfold Int.gcd; unfold u64 at ha; simp; omega) _ _ _ h he
  | succ m ih =>
    intro a b h hm ha hb he hQ
    refine hA.roundR Try.func53 r53_ok ?_; (try (conv => cbv)); repeat (refine brk_ok hA ?_; (try (conv => cbv)))
    refine br (b ≠ 0) (by rw [e_neq hA]) (fun c => ?_) (fun c => ?_) <;> (try (conv => cbv)) <;> repeat (refine brk_ok hA ?_; (try (conv => cbv)))
    · obtain ⟨h9, hh9⟩ : ∃ z, z = bump h 6 := ⟨_, rfl⟩
      have e9 : Ext h h9 := by rw [hh9, e_bump hA]; exact .bump _ _
      rw [← hh9]
      refine ⟨nz_ok hA c, ?_⟩
      ((try (conv => cbv)); repeat (refine brk_ok hA ?_; (try (conv => cbv))))
      have h1 : arith .rem .u64 a b = a % b := remU hA ha.1
      have hb1 : 0 < b := by have := hb.1; omega
      have h2 : 0 ≤ a % b := Int.emod_nonneg _ c
      have h3 : a % b < b := Int.emod_lt_of_pos _ hb1
      rw [h1]
      refine ih b (a % b) h9 (by omega) hb ⟨h2, by have := hb.2; omega⟩ (he.trans e9) (fun g hg => hQ g ?_)
      rw [hg, gcd_rem hb.1 ha.1]
    · have hb0 : b = 0 := by omega
      exact hQ a (by rw [hb0]; unfold Int.gcd; unfold u64 at ha; simp; omega) _ _ _ h he

theorem gcd_ok {h : AHeap} (hlow : h.low ≤ h.next) {a b : Int} (ha : u64 a) (hb : u64 b) {Q : Value → AHeap → Prop} (hQ : ∀ g : Int, g = Int.gcd a b → ∀ h', Ext h h' → Q (.int .u64 g) h') : call 53 [.int .u64 a, .int .u64 b] h Q := by
  refine hA.bodyR Try.func53 r53_ok (hA.alike _ _ _ rfl) hlow ?_; (try (conv => cbv)); repeat (refine brk_ok hA ?_; (try (conv => cbv)))
  refine gcd_loop hA b.toNat a b h (Nat.le_refl _) ha hb (.refl h) (fun g hg e kn K h' he => ?_)
  ((try (conv => cbv)); repeat (refine brk_ok hA ?_; (try (conv => cbv))))
  exact hQ g hg h' he

theorem rgcd_loop {h0 : AHeap} {Q : Exit → SS → Prop} : ∀ (m : Nat) (a b : Int) (h : AHeap), b.toNat ≤ m → u64 a → u64 b → Ext h0 h →
    (∀ g : Int, g = Int.gcd a b → ∀ e kn K h', Ext h0 h' → Q (.exit 0) ⟨(0, .int .u64 g) :: e, kn, K, h'⟩) → head 47 1 0 ⟨[(0, .int .u64 a), (1, .int .u64 b)], 0, [], h⟩ Q := by
  intro m
  induction m with
  | zero =>
    intro a b h hm ha hb he hQ
    have hb0 : b = 0 := by unfold u64 at hb; omega
    refine hA.roundR Try.func47 r47_ok ?_; (try (conv => cbv)); repeat (refine brk_ok hA ?_; (try (conv => cbv)))
    refine br (b ≠ 0) (by rw [e_neq hA]) (fun c => absurd hb0 c) (fun c => ?_) <;> (try (conv => cbv)) <;> repeat (refine brk_ok hA ?_; (try (conv => cbv)))
    exact hQ a (by rw [hb0]; unfold Int.gcd; unfold u64 at ha; simp; omega) _ _ _ h he
  | succ m ih =>
    intro a b h hm ha hb he hQ
    refine hA.roundR Try.func47 r47_ok ?_; (try (conv => cbv)); repeat (refine brk_ok hA ?_; (try (conv => cbv)))
    refine br (b ≠ 0) (by rw [e_neq hA]) (fun c => ?_) (fun c => ?_) <;> (try (conv => cbv)) <;> repeat (refine brk_ok hA ?_; (try (conv => cbv)))
    · obtain ⟨h9, hh9⟩ : ∃ z, z = bump h 6 := ⟨_, rfl⟩
      have e9 : Ext h h9 := by rw [hh9, e_bump hA]; exact .bump _ _
      rw [← hh9]
      refine ⟨nz_ok hA c, ?_⟩
      ((try (conv => cbv)); repeat (refine brk_ok hA ?_; (try (conv => cbv))))
      have h1 : arith .rem .u64 a b = a % b := remU hA ha.1
      have hb1 : 0 < b := by have := hb.1; omega
      have h2 : 0 ≤ a % b := Int.emod_nonneg _ c
      have h3 : a % b < b := Int.emod_lt_of_pos _ hb1
      rw [h1]
      refine ih b (a % b) h9 (by omega) hb ⟨h2, by have := hb.2; omega⟩ (he.trans e9) (fun g hg => hQ g ?_)
      rw [hg, gcd_rem hb.1 ha.1]
    · have hb0 : b = 0 := by omega
      exact hQ a (by rw [hb0]; unfold Int.gcd; unfold u64 at ha; simp; omega) _ _ _ h he

theorem rgcd_ok {h : AHeap} (hlow : h.low ≤ h.next) {a b : Int} (ha : u64 a) (hb : u64 b) {Q : Value → AHeap → Prop} (hQ : ∀ g : Int, g = Int.gcd a b → ∀ h', Ext h h' → Q (.int .u64 g) h') : call 47 [.int .u64 a, .int .u64 b] h Q := by
  refine hA.bodyR Try.func47 r47_ok (hA.alike _ _ _ rfl) hlow ?_; (try (conv => cbv)); repeat (refine brk_ok hA ?_; (try (conv => cbv)))
  refine rgcd_loop hA b.toNat a b h (Nat.le_refl _) ha hb (.refl h) (fun g hg e kn K h' he => ?_)
  ((try (conv => cbv)); repeat (refine brk_ok hA ?_; (try (conv => cbv))))
  exact hQ g hg h' he

/-! ### Make, Check -/

/-- What is returned for a number. -/
theorem build_ok {h : AHeap} (hlow : h.low ≤ h.next) {q : Rat} {mi : Bool} {N D : Int} (hN : u64 N) (hD : u64 D) (h1 : q.num = if mi = true then -N else N) (h2 : (q.den : Int) = D) {Q : Value → AHeap → Prop}
    (hQ : ∀ n d e, outF q n d e → Q (.tuple #[.agg #[.int .i64 n, .int .i64 d], .int .i64 e]) h) : call 62 [.bool mi, .int .u64 N, .int .u64 D] h Q := by
  obtain ⟨n0, n1⟩ := hN
  obtain ⟨d0, d1⟩ := hD
  have hf : fits q ↔ N ≤ 1000000000000000000 ∧ D ≤ 1000000000000000000 := by
    unfold fits
    rw [h1, h2]
    split <;> omega
  refine hA.bodyR Try.func62 r62_ok (hA.alike _ _ _ rfl) hlow ?_; (try (conv => cbv)); repeat (refine brk_ok hA ?_; (try (conv => cbv)))
  refine br (1000000000000000000 < N) (by rw [e_gtr hA]) (fun c => ?_) (fun c => ?_) <;> (try (conv => cbv)) <;> repeat (refine brk_ok hA ?_; (try (conv => cbv)))
  · exact hQ _ _ _ (.inr ⟨fun w => by have := hf.1 w; omega, rfl, rfl, rfl⟩)
  refine br (1000000000000000000 < D) (by rw [e_gtr hA]) (fun c2 => ?_) (fun c2 => ?_) <;> (try (conv => cbv)) <;> repeat (refine brk_ok hA ?_; (try (conv => cbv)))
  · exact hQ _ _ _ (.inr ⟨fun w => by have := hf.1 w; omega, rfl, rfl, rfl⟩)
  have e1 : conv .i64 N = N := conv64 hA (by omega) (by omega)
  have e2 : conv .i64 D = D := conv64 hA (by omega) (by omega)
  have e3 : neg .i64 N = -N := by rw [e_neg hA, wrap64 (by omega) (by omega)]; omega
  have hfit := hf.2 ⟨by omega, by omega⟩
  rw [e1, e2]
  cases mi with
  | true =>
    ((try (conv => cbv)); repeat (refine brk_ok hA ?_; (try (conv => cbv))))
    rw [e3]
    exact hQ _ _ _ (.inl ⟨hfit, by rw [h1, if_pos rfl], by rw [h2], rfl⟩)
  | false =>
    ((try (conv => cbv)); repeat (refine brk_ok hA ?_; (try (conv => cbv))))
    exact hQ _ _ _ (.inl ⟨hfit, by rw [h1]; simp, by rw [h2], rfl⟩)

theorem check_ok {h : AHeap} (hlow : h.low ≤ h.next) {n d : Int} (hn : i64 n) (hd : i64 d) {Q : Value → AHeap → Prop}
    (hQ : ∀ (e : Int) h', (e = 0 ∧ okF n d) ∨ (e = 8 ∧ ¬ okF n d) → Ext h h' → Q (.int .i64 e) h') : call 32 [.agg #[.int .i64 n, .int .i64 d]] h Q := by
  have bad : ¬ (1 ≤ d ∧ d ≤ 1000000000000000000 ∧ -1000000000000000000 ≤ n ∧ n ≤ 1000000000000000000 ∧ Int.gcd n d = 1) → ¬ okF n d := fun w q => w ((okF_iff n d).1 q)
  refine hA.bodyR Try.func32 r32_ok (hA.alike _ _ _ rfl) hlow ?_; (try (conv => cbv)); repeat (refine brk_ok hA ?_; (try (conv => cbv)))
  refine br (d < 1) (by rw [e_lss hA]) (fun c1 => ?_) (fun c1 => ?_) <;> (try (conv => cbv)) <;> repeat (refine brk_ok hA ?_; (try (conv => cbv)))
  · exact hQ _ _ (.inr ⟨rfl, bad (by omega)⟩) (.refl h)
  refine br (1000000000000000000 < d) (by rw [e_gtr hA]) (fun c2 => ?_) (fun c2 => ?_) <;> (try (conv => cbv)) <;> repeat (refine brk_ok hA ?_; (try (conv => cbv)))
  · exact hQ _ _ (.inr ⟨rfl, bad (by omega)⟩) (.refl h)
  refine br (n < -1000000000000000000) (by rw [e_lss hA]) (fun c3 => ?_) (fun c3 => ?_) <;> (try (conv => cbv)) <;> repeat (refine brk_ok hA ?_; (try (conv => cbv)))
  · exact hQ _ _ (.inr ⟨rfl, bad (by omega)⟩) (.refl h)
  refine br (1000000000000000000 < n) (by rw [e_gtr hA]) (fun c4 => ?_) (fun c4 => ?_) <;> (try (conv => cbv)) <;> repeat (refine brk_ok hA ?_; (try (conv => cbv)))
  · exact hQ _ _ (.inr ⟨rfl, bad (by omega)⟩) (.refl h)
  obtain ⟨h9, hh9⟩ : ∃ z, z = bump h 8 := ⟨_, rfl⟩
  have e9 : Ext h h9 := by rw [hh9]; exact ext_bump hA _ _
  have l9 := e9.lowOK hlow
  rw [← hh9]
  ((try (conv => cbv)); repeat (refine brk_ok hA ?_; (try (conv => cbv))))
  refine size_ok hA (low_fresh hA h9) hn (fun s hs => ⟨_, rfl, ?_⟩)
  ((try (conv => cbv)); repeat (refine brk_ok hA ?_; (try (conv => cbv))))
  rw [low_same hA l9]
  refine size_ok hA (low_fresh hA h9) hd (fun t ht => ⟨_, rfl, ?_⟩)
  ((try (conv => cbv)); repeat (refine brk_ok hA ?_; (try (conv => cbv))))
  rw [low_same hA l9]
  refine gcd_ok hA (low_fresh hA h9) (by unfold u64; omega) (by unfold u64; omega) (fun g hg hz ez => ⟨_, rfl, ?_⟩)
  ((try (conv => cbv)); repeat (refine brk_ok hA ?_; (try (conv => cbv))))
  obtain ⟨hX, hhX⟩ : ∃ z, z = lowered h9 hz := ⟨_, rfl⟩
  have eX : Ext h hX := by rw [hhX]; exact ext_low hA hlow e9 ez
  rw [← hhX]
  have hgg : g = Int.gcd n d := by
    rw [hg, hs, ht]
    rfl
  refine br (g ≠ 1) (by rw [e_neq hA]) (fun c5 => ?_) (fun c5 => ?_) <;> (try (conv => cbv)) <;> repeat (refine brk_ok hA ?_; (try (conv => cbv)))
  · exact hQ _ _ (.inr ⟨rfl, bad (by omega)⟩) eX
  · exact hQ _ _ (.inl ⟨rfl, (okF_iff n d).2 (by omega)⟩) eX

theorem make_ok {h : AHeap} (hlow : h.low ≤ h.next) {n d : Int} (hn : i64 n) (hd : i64 d) {Q : Value → AHeap → Prop}
    (hQ : ∀ n' d' e, (d = 0 ∧ n' = 0 ∧ d' = 0 ∧ e = 18) ∨ (d ≠ 0 ∧ outF ((n : Rat) / (d : Rat)) n' d' e) → ∀ h', Ext h h' → Q (.tuple #[.agg #[.int .i64 n', .int .i64 d'], .int .i64 e]) h') : call 41 [.int .i64 n, .int .i64 d] h Q := by
  refine hA.bodyR Try.func41 r41_ok (hA.alike _ _ _ rfl) hlow ?_; (try (conv => cbv)); repeat (refine brk_ok hA ?_; (try (conv => cbv)))
  refine br (d = 0) (by rw [e_eql hA]) (fun c1 => ?_) (fun c1 => ?_) <;> (try (conv => cbv)) <;> repeat (refine brk_ok hA ?_; (try (conv => cbv)))
  · exact hQ _ _ _ (.inl ⟨c1, rfl, rfl, rfl⟩) h (.refl h)
  refine size_ok hA hlow hn (fun s hs => ⟨_, rfl, ?_⟩)
  ((try (conv => cbv)); repeat (refine brk_ok hA ?_; (try (conv => cbv))))
  refine size_ok hA hlow hd (fun t ht => ⟨_, rfl, ?_⟩)
  ((try (conv => cbv)); repeat (refine brk_ok hA ?_; (try (conv => cbv))))
  unfold i64 at hn hd
  refine gcd_ok hA hlow (by unfold u64; omega) (by unfold u64; omega) (fun g hg h2 x2 => ⟨_, rfl, ?_⟩)
  ((try (conv => cbv)); repeat (refine brk_ok hA ?_; (try (conv => cbv))))
  obtain ⟨mi, hmi⟩ : ∃ z, z = bnot (bsame (cmp .lss n 0) (cmp .lss d 0)) := ⟨_, rfl⟩
  have hs2 := signs_ok hA n d
  rw [← hmi] at hs2 ⊢
  obtain ⟨h9, hh9⟩ : ∃ z, z = bump h2 16 := ⟨_, rfl⟩
  have e9 : Ext h h9 := by rw [hh9]; exact x2.trans (ext_bump hA _ _)
  rw [← hh9]
  have hgg : g = Int.gcd n d := by rw [hg, hs, ht]; rfl
  obtain ⟨k1, k2, k3, k4⟩ := make_prog c1 hgg hs2
  rw [← hs] at k1
  rw [← ht] at k2 k4
  refine ⟨nz_ok hA (by omega), ?_⟩
  ((try (conv => cbv)); repeat (refine brk_ok hA ?_; (try (conv => cbv))))
  refine ⟨nz_ok hA (by omega), ?_⟩
  ((try (conv => cbv)); repeat (refine brk_ok hA ?_; (try (conv => cbv))))
  rw [quoU hA (by omega) (by omega) k3, quoU hA (by omega) (by omega) k3]
  have b1 : s / g ≤ s := Int.ediv_le_self g (by omega)
  have b2 : t / g ≤ t := Int.ediv_le_self g (by omega)
  have b3 : 0 ≤ s / g := Int.ediv_nonneg (by omega) (by omega)
  have b4 : 0 ≤ t / g := Int.ediv_nonneg (by omega) (by omega)
  generalize s / g = sg at *
  generalize t / g = tg at *
  ((try (conv => cbv)); repeat (refine brk_ok hA ?_; (try (conv => cbv))))
  refine build_ok hA (low_fresh hA h9) (by unfold u64; omega) (by unfold u64; omega) k1 k2 (fun n' d' e ho => ⟨_, _, _, rfl, ?_⟩)
  ((try (conv => cbv)); repeat (refine brk_ok hA ?_; (try (conv => cbv))))
  exact hQ n' d' e (.inr ⟨c1, ho⟩) _ (ext_low hA hlow e9 (.refl _))

end Go.Proofs.Ytnokkniofajnhaa
