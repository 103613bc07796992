/-
  frac: comparing, products, quotients.
-/
import Derived.Test.YtnokkniofajnhaaBitsC
namespace Go.Proofs.Ytnokkniofajnhaa
open Go.Sim
set_option linter.unusedVariables false
set_option maxRecDepth 100000

def sgn (x : Int) : Int := if 0 < x then 1 else if x = 0 then 0 else -1
theorem sgn_range (x : Int) : -1 ≤ sgn x ∧ sgn x ≤ 1 := by unfold sgn; split <;> (try split) <;> omega
theorem sgn_neg (x : Int) : sgn (-x) = -sgn x := by
  unfold sgn
  rcases Int.lt_trichotomy x 0 with c | c | c
  · rw [if_pos (by omega), if_neg (by omega), if_neg (by omega)]; omega
  · subst c; rfl
  · rw [if_neg (by omega), if_neg (by omega), if_pos (by omega)]
theorem isF.i64n {n d : Int} {q : Rat} (h : isF n d q) : i64 n := by
  obtain ⟨rfl, _, h1, h2, _⟩ := h; unfold i64; omega
theorem isF.i64d {n d : Int} {q : Rat} (h : isF n d q) : i64 d := by
  have := h.den
  obtain ⟨_, rfl, _, _, h3⟩ := h; unfold i64; omega
theorem cmpF_sgn {p q : Rat} : cmpF p q = sgn (p.num * q.den - q.num * p.den) := by
  refine (cmpF_of (c := sgn (p.num * q.den - q.num * p.den)) ?_).symm
  unfold sgn
  split
  · rw [if_neg (by omega), if_neg (by omega)]
  · split
    · rw [if_neg (by omega), if_pos (by omega)]
    · rw [if_pos (by omega)]

variable {F : Prims}
  {call : FuncId → List Value → AHeap → (Value → AHeap → Prop) → Prop}
  {head : FuncId → Nat → Nat → SS → (Exit → SS → Prop) → Prop}
  {arith : BinOp → IntKind → Int → Int → Int}
  {cmp : BinOp → Int → Int → Bool}
  {scmp : BinOp → ByteArray → ByteArray → Bool}
  {bnot : Bool → Bool}
  {bsame : Bool → Bool → Bool}
  {conv : IntKind → Int → Int}
  {neg : IntKind → Int → Int}
  {imax : Int → Int → Int}
  {imin : Int → Int → Int}
  {ofNat : Nat → Int}
  {slen : ByteArray → Int}
  {place : Nat → Int → Nat → Nat}
  {inR : Int → Nat → Prop}
  {nz : Int → Prop}
  {geZ : Int → Prop}
  {rd : AHeap → Nat → Nat → Nat → List Value → Prop}
  {wr : AHeap → Nat → Nat → List Value → AHeap → Prop}
  {push : AHeap → Nat → List Value → AHeap}
  {next : AHeap → Nat}
  {mkOK : Int → Int → Prop}
  {nat : Int → Nat}
  {zeros : List Value → Int → List Value}
  {sadd : ByteArray → ByteArray → (ByteArray → Prop) → Prop}
  {eqAgg : TypeId → Array Value → Array Value → (Bool → Prop) → Prop}
  {cut : Nat → Int → Prop}
  {slc : TypeId → Value → Option Value → Option Value → Option Value → (Option Addr → Nat → Nat → Prop) → Prop}
  {sslc : TypeId → ByteArray → Option Value → Option Value → (ByteArray → Prop) → Prop}
  {strAt : ByteArray → Int → (Int → Prop) → Prop}
  {part : TypeId → Array Value → Nat → Value → Prop}
  {app : List TypeId → List Value → AHeap → (Option Addr → Nat → Nat → AHeap → Prop) → Prop}
  {cpy : List TypeId → List Value → AHeap → (Int → AHeap → Prop) → Prop}
  {putAt : AHeap → Nat → Nat → List Value → AHeap}
  {fresh : AHeap → AHeap}
  {lowered : AHeap → AHeap → AHeap}
  {bump : AHeap → Nat → AHeap}
  {wrote : AHeap → AHeap → Bool}
  {addN : Nat → Nat → Nat}
  {lt : Nat → Nat → Prop}
  {ne : Nat → Nat → Prop}
  {fpAll : Bool → Bool → Bool → Nat → Nat → Prop}
  {brk : (Unit → Prop) → Prop}
  {yn : Nat → Nat}
  {rng : FuncId → Nat → SS → (Exit → SS → Prop) → Prop}
  {mget : TypeId → Value → Value → AHeap → Value → Bool → Prop}
  {mput : TypeId → Value → Value → Value → AHeap → AHeap → Prop}
  {mnew : AHeap → AHeap}
  {bytes : TypeId → TypeId → Option Addr → Nat → AHeap → ByteArray → Prop}
  {clr : List TypeId → List Value → AHeap → AHeap → Prop}
  (hA : AP F ⟨call, head, arith, cmp, scmp, bnot, bsame, conv, neg, imax, imin, ofNat, slen, place, inR, nz, geZ, rd, wr, push, next, mkOK, nat, zeros, sadd, eqAgg, cut, slc, sslc, strAt, part, app, cpy, putAt, fresh, lowered, bump, wrote, addN, lt, ne, fpAll, brk, yn, rng, mget, mput, mnew, bytes, clr⟩)
include hA

theorem wider_ok {h : AHeap} (hlow : h.low ≤ h.next) {ah al bh bl : Int} (h2 : u64 al) (h4 : u64 bl) {Q : Value → AHeap → Prop}
    (hQ : ∀ c : Int, c = sgn (ah * 18446744073709551616 + al - (bh * 18446744073709551616 + bl)) → Q (.int .i64 c) h) : call 81 [.int .u64 ah, .int .u64 al, .int .u64 bh, .int .u64 bl] h Q := by
  obtain ⟨a0, a1⟩ := h2
  obtain ⟨b0, b1⟩ := h4
  refine hA.bodyR Try.func81 r81_ok (hA.alike _ _ _ rfl) hlow ?_; (try (conv => cbv)); repeat (refine brk_ok hA ?_; (try (conv => cbv)))
  refine br (bh < ah) (by rw [e_gtr hA]) (fun c1 => ?_) (fun c1 => ?_) <;> (try (conv => cbv)) <;> repeat (refine brk_ok hA ?_; (try (conv => cbv)))
  · exact hQ _ (by unfold sgn; rw [if_pos (by omega)])
  refine br (ah = bh) (by rw [e_eql hA]) (fun c2 => ?_) (fun c2 => ?_) <;> (try (conv => cbv)) <;> repeat (refine brk_ok hA ?_; (try (conv => cbv)))
  · refine br (bl < al) (by rw [e_gtr hA]) (fun c3 => ?_) (fun c3 => ?_) <;> (try (conv => cbv)) <;> repeat (refine brk_ok hA ?_; (try (conv => cbv)))
    · exact hQ _ (by unfold sgn; rw [if_pos (by omega)])
    refine br (ah = bh) (by rw [e_eql hA]) (fun _ => ?_) (fun q => absurd c2 q) <;> (try (conv => cbv)) <;> repeat (refine brk_ok hA ?_; (try (conv => cbv)))
    refine br (al = bl) (by rw [e_eql hA]) (fun c4 => ?_) (fun c4 => ?_) <;> (try (conv => cbv)) <;> repeat (refine brk_ok hA ?_; (try (conv => cbv)))
    · exact hQ _ (by unfold sgn; rw [if_neg (by omega), if_pos (by omega)])
    · exact hQ _ (by unfold sgn; rw [if_neg (by omega), if_neg (by omega)])
  · refine br (ah = bh) (by rw [e_eql hA]) (fun q => absurd q c2) (fun _ => ?_) <;> (try (conv => cbv)) <;> repeat (refine brk_ok hA ?_; (try (conv => cbv)))
    exact hQ _ (by unfold sgn; rw [if_neg (by omega), if_neg (by omega)])

theorem compare_ok {h : AHeap} (hlow : h.low ≤ h.next) {a b c d : Int} (ha : u64 a) (hb : u64 b) (hc : u64 c) (hd : u64 d) {Q : Value → AHeap → Prop}
    (hQ : ∀ r : Int, r = sgn (a * b - c * d) → Q (.int .i64 r) h) : call 79 [.int .u64 a, .int .u64 b, .int .u64 c, .int .u64 d] h Q := by
  refine hA.bodyR Try.func79 r79_ok (hA.alike _ _ _ rfl) hlow ?_; (try (conv => cbv)); repeat (refine brk_ok hA ?_; (try (conv => cbv)))
  refine mul64_ok hA hlow ha hb (fun h1 l1 e1 f1 => ⟨_, _, rfl, ?_⟩)
  ((try (conv => cbv)); repeat (refine brk_ok hA ?_; (try (conv => cbv))))
  refine mul64_ok hA hlow hc hd (fun h2 l2 e2 f2 => ⟨_, _, rfl, ?_⟩)
  ((try (conv => cbv)); repeat (refine brk_ok hA ?_; (try (conv => cbv))))
  refine wider_ok hA hlow (by unfold u64; omega) (by unfold u64; omega) (fun r hr => ⟨_, rfl, ?_⟩)
  ((try (conv => cbv)); repeat (refine brk_ok hA ?_; (try (conv => cbv))))
  refine hQ r ?_
  rw [hr]
  congr 1
  omega

theorem order_ok {h : AHeap} (hlow : h.low ≤ h.next) {n d m e : Int} {p q : Rat} (hp : isF n d p) (hq : isF m e q) {Q : Value → AHeap → Prop}
    (hQ : ∀ (c : Int) h', c = cmpF p q → Ext h h' → Q (.int .i64 c) h') : call 70 [.agg #[.int .i64 n, .int .i64 d], .agg #[.int .i64 m, .int .i64 e]] h Q := by
  have pd := hp.den
  have qd := hq.den
  have in64 := hp.i64n
  have id64 := hp.i64d
  have im64 := hq.i64n
  have ie64 := hq.i64d
  have key : cmpF p q = sgn (n * e - m * d) := by
    rw [cmpF_sgn, hp.1, hp.2.1, hq.1, hq.2.1]
  have m1 : 0 ≤ (n.natAbs : Int) * e := Int.mul_nonneg (by omega) (by omega)
  have m2 : 0 ≤ (m.natAbs : Int) * d := Int.mul_nonneg (by omega) (by omega)
  have big : ∀ (s : Int) (k : Int), k ≠ 0 → 1 ≤ s → 1 ≤ (k.natAbs : Int) * s := fun s k hk hs => by
    have := Int.mul_pos (a := (k.natAbs : Int)) (b := s) (by omega) (by omega)
    omega
  have sn : n * e = if n < 0 then -((n.natAbs : Int) * e) else (n.natAbs : Int) * e := by
    split
    · rw [show (n.natAbs : Int) = -n by omega, Int.neg_mul]; omega
    · rw [show (n.natAbs : Int) = n by omega]
  have sm : m * d = if m < 0 then -((m.natAbs : Int) * d) else (m.natAbs : Int) * d := by
    split
    · rw [show (m.natAbs : Int) = -m by omega, Int.neg_mul]; omega
    · rw [show (m.natAbs : Int) = m by omega]
  refine hA.bodyR Try.func70 r70_ok (hA.alike _ _ _ rfl) hlow ?_; (try (conv => cbv)); repeat (refine brk_ok hA ?_; (try (conv => cbv)))
  refine br (n < 0) (by rw [e_lss hA]) (fun c1 => ?_) (fun c1 => ?_) <;> (try (conv => cbv)) <;> repeat (refine brk_ok hA ?_; (try (conv => cbv)))
  · refine br (0 ≤ m) (by rw [e_geq hA]) (fun c2 => ?_) (fun c2 => ?_) <;> (try (conv => cbv)) <;> repeat (refine brk_ok hA ?_; (try (conv => cbv)))
    · refine hQ _ _ ?_ (.refl h)
      have := big e n (by omega) qd
      rw [if_pos c1] at sn
      rw [if_neg (by omega)] at sm
      rw [key]
      unfold sgn
      rw [if_neg (by omega), if_neg (by omega)]
    refine br (0 ≤ n) (by rw [e_geq hA]) (fun q => absurd q (by omega)) (fun _ => ?_) <;> (try (conv => cbv)) <;> repeat (refine brk_ok hA ?_; (try (conv => cbv)))
    obtain ⟨h9, hh9⟩ : ∃ z, z = bump h 14 := ⟨_, rfl⟩
    have e9 : Ext h h9 := by rw [hh9]; exact ext_bump hA _ _
    have l9 := e9.lowOK hlow
    rw [← hh9]
    ((try (conv => cbv)); repeat (refine brk_ok hA ?_; (try (conv => cbv))))
    refine size_ok hA (low_fresh hA h9) in64 (fun s1 hs1 => ⟨_, rfl, ?_⟩)
    ((try (conv => cbv)); repeat (refine brk_ok hA ?_; (try (conv => cbv))))
    rw [low_same hA l9]
    refine size_ok hA (low_fresh hA h9) ie64 (fun s2 hs2 => ⟨_, rfl, ?_⟩)
    ((try (conv => cbv)); repeat (refine brk_ok hA ?_; (try (conv => cbv))))
    rw [low_same hA l9]
    refine size_ok hA (low_fresh hA h9) im64 (fun s3 hs3 => ⟨_, rfl, ?_⟩)
    ((try (conv => cbv)); repeat (refine brk_ok hA ?_; (try (conv => cbv))))
    rw [low_same hA l9]
    refine size_ok hA (low_fresh hA h9) id64 (fun s4 hs4 => ⟨_, rfl, ?_⟩)
    ((try (conv => cbv)); repeat (refine brk_ok hA ?_; (try (conv => cbv))))
    rw [low_same hA l9]
    have z1 : u64 s1 := by unfold u64; unfold i64 at in64; omega
    have z2 : u64 s2 := by unfold u64; unfold i64 at ie64; omega
    have z3 : u64 s3 := by unfold u64; unfold i64 at im64; omega
    have z4 : u64 s4 := by unfold u64; unfold i64 at id64; omega
    refine compare_ok hA (low_fresh hA h9) z1 z2 z3 z4 (fun r hr => ⟨_, rfl, ?_⟩)
    rw [hs1, hs3, show s2 = e by omega, show s4 = d by omega] at hr
    ((try (conv => cbv)); repeat (refine brk_ok hA ?_; (try (conv => cbv))))
    rw [low_same hA l9]
    refine br (n < 0) (by rw [e_lss hA]) (fun _ => ?_) (fun q => absurd c1 q) <;> (try (conv => cbv)) <;> repeat (refine brk_ok hA ?_; (try (conv => cbv)))
    refine hQ _ _ ?_ e9
    rw [if_pos c1] at sn
    rw [if_pos (by omega)] at sm
    have hr2 := sgn_range ((n.natAbs : Int) * e - (m.natAbs : Int) * d)
    have hr3 := sgn_neg ((n.natAbs : Int) * e - (m.natAbs : Int) * d)
    rw [key, sn, sm, e_neg hA, hr, wrap64 (by omega) (by omega)]
    rw [show -((n.natAbs : Int) * e) - -((m.natAbs : Int) * d) = -((n.natAbs : Int) * e - (m.natAbs : Int) * d) by omega, hr3]
    omega
  · refine br (0 ≤ n) (by rw [e_geq hA]) (fun _ => ?_) (fun q => absurd q (by omega)) <;> (try (conv => cbv)) <;> repeat (refine brk_ok hA ?_; (try (conv => cbv)))
    refine br (m < 0) (by rw [e_lss hA]) (fun c2 => ?_) (fun c2 => ?_) <;> (try (conv => cbv)) <;> repeat (refine brk_ok hA ?_; (try (conv => cbv)))
    · refine hQ _ _ ?_ (.refl h)
      have := big d m (by omega) pd
      rw [if_neg c1] at sn
      rw [if_pos c2] at sm
      rw [key]
      unfold sgn
      rw [if_pos (by omega)]
    obtain ⟨h9, hh9⟩ : ∃ z, z = bump h 14 := ⟨_, rfl⟩
    have e9 : Ext h h9 := by rw [hh9]; exact ext_bump hA _ _
    have l9 := e9.lowOK hlow
    rw [← hh9]
    ((try (conv => cbv)); repeat (refine brk_ok hA ?_; (try (conv => cbv))))
    refine size_ok hA (low_fresh hA h9) in64 (fun s1 hs1 => ⟨_, rfl, ?_⟩)
    ((try (conv => cbv)); repeat (refine brk_ok hA ?_; (try (conv => cbv))))
    rw [low_same hA l9]
    refine size_ok hA (low_fresh hA h9) ie64 (fun s2 hs2 => ⟨_, rfl, ?_⟩)
    ((try (conv => cbv)); repeat (refine brk_ok hA ?_; (try (conv => cbv))))
    rw [low_same hA l9]
    refine size_ok hA (low_fresh hA h9) im64 (fun s3 hs3 => ⟨_, rfl, ?_⟩)
    ((try (conv => cbv)); repeat (refine brk_ok hA ?_; (try (conv => cbv))))
    rw [low_same hA l9]
    refine size_ok hA (low_fresh hA h9) id64 (fun s4 hs4 => ⟨_, rfl, ?_⟩)
    ((try (conv => cbv)); repeat (refine brk_ok hA ?_; (try (conv => cbv))))
    rw [low_same hA l9]
    have z1 : u64 s1 := by unfold u64; unfold i64 at in64; omega
    have z2 : u64 s2 := by unfold u64; unfold i64 at ie64; omega
    have z3 : u64 s3 := by unfold u64; unfold i64 at im64; omega
    have z4 : u64 s4 := by unfold u64; unfold i64 at id64; omega
    refine compare_ok hA (low_fresh hA h9) z1 z2 z3 z4 (fun r hr => ⟨_, rfl, ?_⟩)
    rw [hs1, hs3, show s2 = e by omega, show s4 = d by omega] at hr
    ((try (conv => cbv)); repeat (refine brk_ok hA ?_; (try (conv => cbv))))
    rw [low_same hA l9]
    refine br (n < 0) (by rw [e_lss hA]) (fun q => absurd q c1) (fun _ => ?_) <;> (try (conv => cbv)) <;> repeat (refine brk_ok hA ?_; (try (conv => cbv)))
    refine hQ _ _ ?_ e9
    rw [if_neg c1] at sn
    rw [if_neg c2] at sm
    rw [key, sn, sm, hr]

theorem both_ok {h : AHeap} (hlow : h.low ≤ h.next) {n d m e : Int} (hn : i64 n) (hd : i64 d) (hm : i64 m) (he : i64 e) {Q : Value → AHeap → Prop}
    (hQ : ∀ (r : Int) h', (r = 0 ∧ okF n d ∧ okF m e) ∨ (r = 8 ∧ ¬ (okF n d ∧ okF m e)) → Ext h h' → Q (.int .i64 r) h') : call 63 [.agg #[.int .i64 n, .int .i64 d], .agg #[.int .i64 m, .int .i64 e]] h Q := by
  refine hA.bodyR Try.func63 r63_ok (hA.alike _ _ _ rfl) hlow ?_; (try (conv => cbv)); repeat (refine brk_ok hA ?_; (try (conv => cbv)))
  refine check_ok hA hlow hn hd (fun r1 h1 k1 x1 => ⟨_, rfl, ?_⟩)
  ((try (conv => cbv)); repeat (refine brk_ok hA ?_; (try (conv => cbv))))
  refine br (r1 ≠ 0) (by rw [e_neq hA]) (fun c1 => ?_) (fun c1 => ?_) <;> (try (conv => cbv)) <;> repeat (refine brk_ok hA ?_; (try (conv => cbv)))
  · rcases k1 with ⟨q, _⟩ | ⟨rfl, q⟩
    · exact absurd q c1
    · exact hQ _ _ (.inr ⟨rfl, fun w => q w.1⟩) x1
  refine check_ok hA (x1.lowOK hlow) hm he (fun r2 h2 k2 x2 => ⟨_, rfl, ?_⟩)
  ((try (conv => cbv)); repeat (refine brk_ok hA ?_; (try (conv => cbv))))
  rcases k1 with ⟨_, q1⟩ | ⟨q, _⟩
  · rcases k2 with ⟨rfl, q2⟩ | ⟨rfl, q2⟩
    · exact hQ _ _ (.inl ⟨rfl, q1, q2⟩) (x1.trans x2)
    · exact hQ _ _ (.inr ⟨rfl, fun w => q2 w.2⟩) (x1.trans x2)
  · omega

/-- What Cmp answers. -/
def CmpIs (n d m e c r : Int) : Prop := (¬ (okF n d ∧ okF m e) ∧ c = 0 ∧ r = 8) ∨ ∃ p q, isF n d p ∧ isF m e q ∧ c = cmpF p q ∧ r = 0

theorem cmp_ok {h : AHeap} (hlow : h.low ≤ h.next) {n d m e : Int} (hn : i64 n) (hd : i64 d) (hm : i64 m) (he : i64 e) {Q : Value → AHeap → Prop}
    (hQ : ∀ (c r : Int) h', CmpIs n d m e c r → Ext h h' → Q (.tuple #[.int .i64 c, .int .i64 r]) h') : call 55 [.agg #[.int .i64 n, .int .i64 d], .agg #[.int .i64 m, .int .i64 e]] h Q := by
  refine hA.bodyR Try.func55 r55_ok (hA.alike _ _ _ rfl) hlow ?_; (try (conv => cbv)); repeat (refine brk_ok hA ?_; (try (conv => cbv)))
  refine both_ok hA hlow hn hd hm he (fun r1 h1 k1 x1 => ⟨_, rfl, ?_⟩)
  ((try (conv => cbv)); repeat (refine brk_ok hA ?_; (try (conv => cbv))))
  refine br (r1 ≠ 0) (by rw [e_neq hA]) (fun c1 => ?_) (fun c1 => ?_) <;> (try (conv => cbv)) <;> repeat (refine brk_ok hA ?_; (try (conv => cbv)))
  · rcases k1 with ⟨q, _⟩ | ⟨rfl, q⟩
    · exact absurd q c1
    · exact hQ _ _ _ (.inl ⟨q, rfl, rfl⟩) x1
  rcases k1 with ⟨_, ⟨p, hp⟩, q, hq⟩ | ⟨q, _⟩
  · refine order_ok hA (x1.lowOK hlow) hp hq (fun c h2 hc x2 => ⟨_, rfl, ?_⟩)
    ((try (conv => cbv)); repeat (refine brk_ok hA ?_; (try (conv => cbv))))
    exact hQ _ _ _ (.inr ⟨p, q, hp, hq, hc, rfl⟩) (x1.trans x2)
  · omega

end Go.Proofs.Ytnokkniofajnhaa
