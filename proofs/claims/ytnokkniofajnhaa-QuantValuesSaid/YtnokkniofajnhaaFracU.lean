/-
  fringeref01: Less, Cmp.
-/
import Derived.Test.YtnokkniofajnhaaFracT
namespace Go.Proofs.Ytnokkniofajnhaa
open Go.Sim
set_option linter.unusedVariables false
set_option maxRecDepth 100000

variable {F : Prims}
  {call : FuncId → List Value → AHeap → (Value → AHeap → Prop) → Prop}
  {head : FuncId → Nat → Nat → SS → (Exit → SS → Prop) → Prop}
  {arith : BinOp → IntKind → Int → Int → Int}
  {cmp : BinOp → Int → Int → Bool}
  {scmp : BinOp → ByteArray → ByteArray → Bool}
  {bnot : Bool → Bool}
  {bsame : Bool → Bool → Bool}
  {conv : IntKind → Int → Int}
  {neg : IntKind → Int → Int}
  {imax : Int → Int → Int}
  {imin : Int → Int → Int}
  {ofNat : Nat → Int}
  {slen : ByteArray → Int}
  {place : Nat → Int → Nat → Nat}
  {inR : Int → Nat → Prop}
  {nz : Int → Prop}
  {geZ : Int → Prop}
  {rd : AHeap → Nat → Nat → Nat → List Value → Prop}
  {wr : AHeap → Nat → Nat → List Value → AHeap → Prop}
  {push : AHeap → Nat → List Value → AHeap}
  {next : AHeap → Nat}
  {mkOK : Int → Int → Prop}
  {nat : Int → Nat}
  {zeros : List Value → Int → List Value}
  {sadd : ByteArray → ByteArray → (ByteArray → Prop) → Prop}
  {eqAgg : TypeId → Array Value → Array Value → (Bool → Prop) → Prop}
  {cut : Nat → Int → Prop}
  {slc : TypeId → Value → Option Value → Option Value → Option Value → (Option Addr → Nat → Nat → Prop) → Prop}
  {sslc : TypeId → ByteArray → Option Value → Option Value → (ByteArray → Prop) → Prop}
  {strAt : ByteArray → Int → (Int → Prop) → Prop}
  {part : TypeId → Array Value → Nat → Value → Prop}
  {app : List TypeId → List Value → AHeap → (Option Addr → Nat → Nat → AHeap → Prop) → Prop}
  {cpy : List TypeId → List Value → AHeap → (Int → AHeap → Prop) → Prop}
  {putAt : AHeap → Nat → Nat → List Value → AHeap}
  {fresh : AHeap → AHeap}
  {lowered : AHeap → AHeap → AHeap}
  {bump : AHeap → Nat → AHeap}
  {wrote : AHeap → AHeap → Bool}
  {addN : Nat → Nat → Nat}
  {lt : Nat → Nat → Prop}
  {ne : Nat → Nat → Prop}
  {fpAll : Bool → Bool → Bool → Nat → Nat → Prop}
  {brk : (Unit → Prop) → Prop}
  {yn : Nat → Nat}
  {rng : FuncId → Nat → SS → (Exit → SS → Prop) → Prop}
  {mget : TypeId → Value → Value → AHeap → Value → Bool → Prop}
  {mput : TypeId → Value → Value → Value → AHeap → AHeap → Prop}
  {mnew : AHeap → AHeap}
  {bytes : TypeId → TypeId → Option Addr → Nat → AHeap → ByteArray → Prop}
  {clr : List TypeId → List Value → AHeap → AHeap → Prop}
  (hA : AP F ⟨call, head, arith, cmp, scmp, bnot, bsame, conv, neg, imax, imin, ofNat, slen, place, inR, nz, geZ, rd, wr, push, next, mkOK, nat, zeros, sadd, eqAgg, cut, slc, sslc, strAt, part, app, cpy, putAt, fresh, lowered, bump, wrote, addN, lt, ne, fpAll, brk, yn, rng, mget, mput, mnew, bytes, clr⟩)
include hA

theorem wrote_no {X h' : AHeap} (e : Ext (fresh X) h') : wrote X h' = false := by
  rw [e_wrote hA]
  have h1 := e.lowG
  rw [e_fresh hA] at h1
  have h2 : Nat.min X.freshed.low X.freshed.next = X.next := Nat.min_self _
  rw [h2] at h1
  exact blt_false h1

theorem rless_ok {h : AHeap} (hlow : h.low ≤ h.next) {n d m e : Int} {p q : Rat} (hp : isF n d p) (hq : isF m e q) {Q : Value → AHeap → Prop}
    (hQ : ∀ (r : Bool) h', (r = true ↔ p < q) → Ext h h' → Q (.bool r) h') : call 68 [.agg #[.int .i64 n, .int .i64 d], .agg #[.int .i64 m, .int .i64 e]] h Q := by
  have pd := hp.den
  have qd := hq.den
  have in64 := hp.i64n
  have id64 := hp.i64d
  have im64 := hq.i64n
  have ie64 := hq.i64d
  have key : p < q ↔ n * e < m * d := by rw [Rat.lt_iff, ← hp.1, ← hq.1, ← hp.2.1, ← hq.2.1]
  have sn : n * e = if n < 0 then -((n.natAbs : Int) * e) else (n.natAbs : Int) * e := by
    split
    · rw [show (n.natAbs : Int) = -n by omega, Int.neg_mul]; omega
    · rw [show (n.natAbs : Int) = n by omega]
  have sm : m * d = if m < 0 then -((m.natAbs : Int) * d) else (m.natAbs : Int) * d := by
    split
    · rw [show (m.natAbs : Int) = -m by omega, Int.neg_mul]; omega
    · rw [show (m.natAbs : Int) = m by omega]
  have m1 : 0 ≤ (n.natAbs : Int) * e := Int.mul_nonneg (by omega) (by omega)
  have m2 : 0 ≤ (m.natAbs : Int) * d := Int.mul_nonneg (by omega) (by omega)
  have big : ∀ (s : Int) (k : Int), k ≠ 0 → 1 ≤ s → 1 ≤ (k.natAbs : Int) * s := fun s k hk hs => by
    have := Int.mul_pos (a := (k.natAbs : Int)) (b := s) (by omega) (by omega)
    omega
  have ud : u64 d := by unfold u64; unfold i64 at id64; omega
  have ue : u64 e := by unfold u64; unfold i64 at ie64; omega
  refine hA.bodyR Try.func68 r68_ok (hA.alike _ _ _ rfl) hlow ?_; (try (conv => cbv)); repeat (refine brk_ok hA ?_; (try (conv => cbv)))
  refine br (¬ (n < 0 ↔ m < 0)) (by rw [e_bnot hA, e_bsame hA, e_lss hA, e_lss hA]; by_cases z1 : n < 0 <;> by_cases z2 : m < 0 <;> simp [z1, z2]) (fun cs => ?_) (fun cs => ?_) <;> (try (conv => cbv)) <;> repeat (refine brk_ok hA ?_; (try (conv => cbv)))
  · refine hQ _ h ?_ (.refl h)
    rw [e_lss hA, decide_eq_true_iff, key]
    by_cases z1 : n < 0
    · have z2 : ¬ m < 0 := fun w => cs ⟨fun _ => w, fun _ => z1⟩
      have := big e n (by omega) qd
      rw [if_pos z1] at sn
      rw [if_neg z2] at sm
      omega
    · have z2 : m < 0 := by
        by_cases w : m < 0
        · exact w
        · exact absurd ⟨fun x => absurd x z1, fun x => absurd x w⟩ cs
      rw [if_neg z1] at sn
      rw [if_pos z2] at sm
      omega
  have cs2 : (n < 0 ↔ m < 0) := Decidable.not_not.1 cs
  obtain ⟨h9, hh9⟩ : ∃ z, z = bump h 18 := ⟨_, rfl⟩
  have e9 : Ext h h9 := by rw [hh9]; exact ext_bump hA _ _
  have l9 := e9.lowOK hlow
  rw [← hh9]
  ((try (conv => cbv)); repeat (refine brk_ok hA ?_; (try (conv => cbv))))
  rw [convU hA ud.1 ud.2, convU hA ue.1 ue.2]
  refine rabs_ok hA (low_fresh hA h9) in64 (fun s1 hs1 => ⟨_, rfl, ?_⟩)
  ((try (conv => cbv)); repeat (refine brk_ok hA ?_; (try (conv => cbv))))
  rw [low_same hA l9]
  have u1 : u64 s1 := by unfold u64; unfold i64 at in64; omega
  refine product4_ok hA (low_fresh hA h9) u1 ue (fun a0 a1 a2 a3 hz dz ez => ⟨_, _, _, _, rfl, ?_⟩)
  ((try (conv => cbv)); repeat (refine brk_ok hA ?_; (try (conv => cbv))))
  obtain ⟨hX, hhX⟩ : ∃ z, z = lowered h9 hz := ⟨_, rfl⟩
  have eX : Ext h hX := by rw [hhX]; exact ext_low hA hlow e9 ez
  have lX := eX.lowOK hlow
  rw [← hhX]
  refine rabs_ok hA (low_fresh hA hX) im64 (fun s2 hs2 => ⟨_, rfl, ?_⟩)
  ((try (conv => cbv)); repeat (refine brk_ok hA ?_; (try (conv => cbv))))
  rw [low_same hA lX]
  have u2 : u64 s2 := by unfold u64; unfold i64 at im64; omega
  refine product4_ok hA (low_fresh hA hX) u2 ud (fun b0 b1 b2 b3 hw dw ew => ⟨_, _, _, _, rfl, ?_⟩)
  ((try (conv => cbv)); repeat (refine brk_ok hA ?_; (try (conv => cbv))))
  obtain ⟨hY, hhY⟩ : ∃ z, z = lowered hX hw := ⟨_, rfl⟩
  have eY : Ext h hY := by rw [hhY]; exact ext_low hA hlow eX ew
  have lY := eY.lowOK hlow
  rw [← hhY]
  ((try (conv => cbv)); repeat (refine brk_ok hA ?_; (try (conv => cbv))))
  refine ⟨ne_ok hA (by omega), ne_ok hA (by omega), ne_ok hA (by omega), ne_ok hA (by omega), ne_ok hA (by omega), ne_ok hA (by omega), ne_ok hA (by omega), ne_ok hA (by omega), ne_ok hA (by omega), wrote_no hA (.refl _), wrote_no hA ez, wrote_no hA (.refl _), wrote_no hA ew, wrote_no hA (.refl _), wrote_no hA ez, wrote_no hA (.refl _), wrote_no hA ew, ?_⟩
  ((try (conv => cbv)); repeat (refine brk_ok hA ?_; (try (conv => cbv))))
  rw [hs1] at dz
  rw [hs2] at dw
  refine br (n < 0) (by rw [e_lss hA]) (fun c => ?_) (fun c => ?_) <;> (try (conv => cbv)) <;> repeat (refine brk_ok hA ?_; (try (conv => cbv)))
  · refine below_ok hA lY dw dz (fun r h' hr x' => ⟨_, rfl, ?_⟩)
    ((try (conv => cbv)); repeat (refine brk_ok hA ?_; (try (conv => cbv))))
    refine hQ r h' ?_ (eY.trans x')
    rw [if_pos c] at sn
    rw [if_pos (cs2.1 c)] at sm
    rw [hr, key]
    omega
  · refine below_ok hA lY dz dw (fun r h' hr x' => ⟨_, rfl, ?_⟩)
    ((try (conv => cbv)); repeat (refine brk_ok hA ?_; (try (conv => cbv))))
    refine hQ r h' ?_ (eY.trans x')
    rw [if_neg c] at sn
    rw [if_neg (fun w => c (cs2.2 w))] at sm
    rw [hr, key]
    omega

end Go.Proofs.Ytnokkniofajnhaa
