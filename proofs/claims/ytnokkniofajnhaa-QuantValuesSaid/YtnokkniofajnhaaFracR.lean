/-
  fringeref01: absolute values, valid fractions.
-/
import Derived.Test.YtnokkniofajnhaaFracD
namespace Go.Proofs.Ytnokkniofajnhaa
open Go.Sim
set_option linter.unusedVariables false
set_option maxRecDepth 100000

variable {F : Prims}
  {call : FuncId → List Value → AHeap → (Value → AHeap → Prop) → Prop}
  {head : FuncId → Nat → Nat → SS → (Exit → SS → Prop) → Prop}
  {arith : BinOp → IntKind → Int → Int → Int}
  {cmp : BinOp → Int → Int → Bool}
  {scmp : BinOp → ByteArray → ByteArray → Bool}
  {bnot : Bool → Bool}
  {bsame : Bool → Bool → Bool}
  {conv : IntKind → Int → Int}
  {neg : IntKind → Int → Int}
  {imax : Int → Int → Int}
  {imin : Int → Int → Int}
  {ofNat : Nat → Int}
  {slen : ByteArray → Int}
  {place : Nat → Int → Nat → Nat}
  {inR : Int → Nat → Prop}
  {nz : Int → Prop}
  {geZ : Int → Prop}
  {rd : AHeap → Nat → Nat → Nat → List Value → Prop}
  {wr : AHeap → Nat → Nat → List Value → AHeap → Prop}
  {push : AHeap → Nat → List Value → AHeap}
  {next : AHeap → Nat}
  {mkOK : Int → Int → Prop}
  {nat : Int → Nat}
  {zeros : List Value → Int → List Value}
  {sadd : ByteArray → ByteArray → (ByteArray → Prop) → Prop}
  {eqAgg : TypeId → Array Value → Array Value → (Bool → Prop) → Prop}
  {cut : Nat → Int → Prop}
  {slc : TypeId → Value → Option Value → Option Value → Option Value → (Option Addr → Nat → Nat → Prop) → Prop}
  {sslc : TypeId → ByteArray → Option Value → Option Value → (ByteArray → Prop) → Prop}
  {strAt : ByteArray → Int → (Int → Prop) → Prop}
  {part : TypeId → Array Value → Nat → Value → Prop}
  {app : List TypeId → List Value → AHeap → (Option Addr → Nat → Nat → AHeap → Prop) → Prop}
  {cpy : List TypeId → List Value → AHeap → (Int → AHeap → Prop) → Prop}
  {putAt : AHeap → Nat → Nat → List Value → AHeap}
  {fresh : AHeap → AHeap}
  {lowered : AHeap → AHeap → AHeap}
  {bump : AHeap → Nat → AHeap}
  {wrote : AHeap → AHeap → Bool}
  {addN : Nat → Nat → Nat}
  {lt : Nat → Nat → Prop}
  {ne : Nat → Nat → Prop}
  {fpAll : Bool → Bool → Bool → Nat → Nat → Prop}
  {brk : (Unit → Prop) → Prop}
  {yn : Nat → Nat}
  {rng : FuncId → Nat → SS → (Exit → SS → Prop) → Prop}
  {mget : TypeId → Value → Value → AHeap → Value → Bool → Prop}
  {mput : TypeId → Value → Value → Value → AHeap → AHeap → Prop}
  {mnew : AHeap → AHeap}
  {bytes : TypeId → TypeId → Option Addr → Nat → AHeap → ByteArray → Prop}
  {clr : List TypeId → List Value → AHeap → AHeap → Prop}
  (hA : AP F ⟨call, head, arith, cmp, scmp, bnot, bsame, conv, neg, imax, imin, ofNat, slen, place, inR, nz, geZ, rd, wr, push, next, mkOK, nat, zeros, sadd, eqAgg, cut, slc, sslc, strAt, part, app, cpy, putAt, fresh, lowered, bump, wrote, addN, lt, ne, fpAll, brk, yn, rng, mget, mput, mnew, bytes, clr⟩)
include hA

theorem rabs_ok {h : AHeap} (hlow : h.low ≤ h.next) {n : Int} (hn : i64 n) {Q : Value → AHeap → Prop} (hQ : ∀ s : Int, s = n.natAbs → Q (.int .u64 s) h) : call 48 [.int .i64 n] h Q := by
  obtain ⟨h0, h1⟩ := hn
  refine hA.bodyR Try.func48 r48_ok (hA.alike _ _ _ rfl) hlow ?_; (try (conv => cbv)); repeat (refine brk_ok hA ?_; (try (conv => cbv)))
  refine br (0 ≤ n) (by rw [e_geq hA]) (fun c => ?_) (fun c => ?_) <;> (try (conv => cbv)) <;> repeat (refine brk_ok hA ?_; (try (conv => cbv)))
  · exact hQ _ (by rw [e_conv hA, wrapUm]; omega)
  · have e1 : arith .add .i64 n 1 = n + 1 := add64 hA (by omega) (by omega)
    have e2 : neg .i64 (n + 1) = -(n + 1) := by rw [e_neg hA, wrap64 (by omega) (by omega)]; omega
    have e3 : conv .u64 (-(n + 1)) = -(n + 1) := convU hA (by omega) (by omega)
    have e4 : arith .add .u64 (-(n + 1)) 1 = -(n + 1) + 1 := addU hA (by omega) (by omega)
    refine hQ _ ?_
    rw [e1, e2, e3, e4]
    omega

theorem rcheck_ok {h : AHeap} (hlow : h.low ≤ h.next) {n d : Int} (hn : i64 n) (hd : i64 d) {Q : Value → AHeap → Prop}
    (hQ : ∀ (e : Int) h', (e = 0 ∧ okF n d) ∨ (e = 8 ∧ ¬ okF n d) → Ext h h' → Q (.int .i64 e) h') : call 28 [.agg #[.int .i64 n, .int .i64 d]] h Q := by
  have bad : ¬ (1 ≤ d ∧ d ≤ 1000000000000000000 ∧ -1000000000000000000 ≤ n ∧ n ≤ 1000000000000000000 ∧ Int.gcd n d = 1) → ¬ okF n d := fun w q => w ((okF_iff n d).1 q)
  refine hA.bodyR Try.func28 r28_ok (hA.alike _ _ _ rfl) hlow ?_; (try (conv => cbv)); repeat (refine brk_ok hA ?_; (try (conv => cbv)))
  obtain ⟨h9, hh9⟩ : ∃ z, z = bump h 28 := ⟨_, rfl⟩
  have e9 : Ext h h9 := by rw [hh9]; exact ext_bump hA _ _
  have l9 := e9.lowOK hlow
  rw [← hh9]
  refine br (d < 1) (by rw [e_lss hA]) (fun c1 => ?_) (fun c1 => ?_) <;> (try (conv => cbv)) <;> repeat (refine brk_ok hA ?_; (try (conv => cbv)))
  · exact hQ _ _ (.inr ⟨rfl, bad (by omega)⟩) e9
  refine br (1000000000000000000 < d) (by rw [e_gtr hA]) (fun c2 => ?_) (fun c2 => ?_) <;> (try (conv => cbv)) <;> repeat (refine brk_ok hA ?_; (try (conv => cbv)))
  · exact hQ _ _ (.inr ⟨rfl, bad (by omega)⟩) e9
  refine br (n < -1000000000000000000) (by rw [e_lss hA]) (fun c3 => ?_) (fun c3 => ?_) <;> (try (conv => cbv)) <;> repeat (refine brk_ok hA ?_; (try (conv => cbv)))
  · exact hQ _ _ (.inr ⟨rfl, bad (by omega)⟩) e9
  refine br (1000000000000000000 < n) (by rw [e_gtr hA]) (fun c4 => ?_) (fun c4 => ?_) <;> (try (conv => cbv)) <;> repeat (refine brk_ok hA ?_; (try (conv => cbv)))
  · exact hQ _ _ (.inr ⟨rfl, bad (by omega)⟩) e9
  ((try (conv => cbv)); repeat (refine brk_ok hA ?_; (try (conv => cbv))))
  have ud : u64 d := by unfold u64; omega
  rw [convU hA ud.1 ud.2]
  refine rabs_ok hA (low_fresh hA h9) hn (fun s hs => ⟨_, rfl, ?_⟩)
  ((try (conv => cbv)); repeat (refine brk_ok hA ?_; (try (conv => cbv))))
  rw [low_same hA l9]
  refine rgcd_ok hA (low_fresh hA h9) (by unfold u64; omega) ud (fun g hg hz ez => ⟨_, rfl, ?_⟩)
  ((try (conv => cbv)); repeat (refine brk_ok hA ?_; (try (conv => cbv))))
  obtain ⟨hX, hhX⟩ : ∃ z, z = lowered h9 hz := ⟨_, rfl⟩
  have eX : Ext h hX := by rw [hhX]; exact ext_low hA hlow e9 ez
  rw [← hhX]
  have hgg : g = Int.gcd n d := by
    rw [hg, hs]
    rfl
  refine br (g ≠ 1) (by rw [e_neq hA]) (fun c5 => ?_) (fun c5 => ?_) <;> (try (conv => cbv)) <;> repeat (refine brk_ok hA ?_; (try (conv => cbv)))
  · exact hQ _ _ (.inr ⟨rfl, bad (by omega)⟩) eX
  · exact hQ _ _ (.inl ⟨rfl, (okF_iff n d).2 (by omega)⟩) eX

theorem rboth_ok {h : AHeap} (hlow : h.low ≤ h.next) {n d m e : Int} (hn : i64 n) (hd : i64 d) (hm : i64 m) (he : i64 e) {Q : Value → AHeap → Prop}
    (hQ : ∀ (r : Int) h', (r = 0 ∧ okF n d ∧ okF m e) ∨ (r = 8 ∧ ¬ (okF n d ∧ okF m e)) → Ext h h' → Q (.int .i64 r) h') : call 66 [.agg #[.int .i64 n, .int .i64 d], .agg #[.int .i64 m, .int .i64 e]] h Q := by
  refine hA.bodyR Try.func66 r66_ok (hA.alike _ _ _ rfl) hlow ?_; (try (conv => cbv)); repeat (refine brk_ok hA ?_; (try (conv => cbv)))
  refine rcheck_ok hA hlow hn hd (fun r1 h1 k1 x1 => ⟨_, rfl, ?_⟩)
  ((try (conv => cbv)); repeat (refine brk_ok hA ?_; (try (conv => cbv))))
  refine br (r1 ≠ 0) (by rw [e_neq hA]) (fun c1 => ?_) (fun c1 => ?_) <;> (try (conv => cbv)) <;> repeat (refine brk_ok hA ?_; (try (conv => cbv)))
  · refine rcheck_ok hA (x1.lowOK hlow) hn hd (fun r3 h3 k3 x3 => ⟨_, rfl, ?_⟩)
    ((try (conv => cbv)); repeat (refine brk_ok hA ?_; (try (conv => cbv))))
    rcases k1 with ⟨q, _⟩ | ⟨rfl, q⟩
    · exact absurd q c1
    · rcases k3 with ⟨_, q3⟩ | ⟨rfl, _⟩
      · exact absurd q3 q
      · exact hQ _ _ (.inr ⟨rfl, fun w => q w.1⟩) (x1.trans x3)
  refine rcheck_ok hA (x1.lowOK hlow) hm he (fun r2 h2 k2 x2 => ⟨_, rfl, ?_⟩)
  ((try (conv => cbv)); repeat (refine brk_ok hA ?_; (try (conv => cbv))))
  rcases k1 with ⟨_, q1⟩ | ⟨q, _⟩
  · rcases k2 with ⟨rfl, q2⟩ | ⟨rfl, q2⟩
    · exact hQ _ _ (.inl ⟨rfl, q1, q2⟩) (x1.trans x2)
    · exact hQ _ _ (.inr ⟨rfl, fun w => q2 w.2⟩) (x1.trans x2)
  · omega

end Go.Proofs.Ytnokkniofajnhaa
