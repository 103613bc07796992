/-
  frac: Add, Sub.
-/
import Derived.Test.YtnokkniofajnhaaFracJ
namespace Go.Proofs.Ytnokkniofajnhaa
open Go.Sim
set_option linter.unusedVariables false
set_option maxRecDepth 100000

variable {F : Prims}
  {call : FuncId → List Value → AHeap → (Value → AHeap → Prop) → Prop}
  {head : FuncId → Nat → Nat → SS → (Exit → SS → Prop) → Prop}
  {arith : BinOp → IntKind → Int → Int → Int}
  {cmp : BinOp → Int → Int → Bool}
  {scmp : BinOp → ByteArray → ByteArray → Bool}
  {bnot : Bool → Bool}
  {bsame : Bool → Bool → Bool}
  {conv : IntKind → Int → Int}
  {neg : IntKind → Int → Int}
  {imax : Int → Int → Int}
  {imin : Int → Int → Int}
  {ofNat : Nat → Int}
  {slen : ByteArray → Int}
  {place : Nat → Int → Nat → Nat}
  {inR : Int → Nat → Prop}
  {nz : Int → Prop}
  {geZ : Int → Prop}
  {rd : AHeap → Nat → Nat → Nat → List Value → Prop}
  {wr : AHeap → Nat → Nat → List Value → AHeap → Prop}
  {push : AHeap → Nat → List Value → AHeap}
  {next : AHeap → Nat}
  {mkOK : Int → Int → Prop}
  {nat : Int → Nat}
  {zeros : List Value → Int → List Value}
  {sadd : ByteArray → ByteArray → (ByteArray → Prop) → Prop}
  {eqAgg : TypeId → Array Value → Array Value → (Bool → Prop) → Prop}
  {cut : Nat → Int → Prop}
  {slc : TypeId → Value → Option Value → Option Value → Option Value → (Option Addr → Nat → Nat → Prop) → Prop}
  {sslc : TypeId → ByteArray → Option Value → Option Value → (ByteArray → Prop) → Prop}
  {strAt : ByteArray → Int → (Int → Prop) → Prop}
  {part : TypeId → Array Value → Nat → Value → Prop}
  {app : List TypeId → List Value → AHeap → (Option Addr → Nat → Nat → AHeap → Prop) → Prop}
  {cpy : List TypeId → List Value → AHeap → (Int → AHeap → Prop) → Prop}
  {putAt : AHeap → Nat → Nat → List Value → AHeap}
  {fresh : AHeap → AHeap}
  {lowered : AHeap → AHeap → AHeap}
  {bump : AHeap → Nat → AHeap}
  {wrote : AHeap → AHeap → Bool}
  {addN : Nat → Nat → Nat}
  {lt : Nat → Nat → Prop}
  {ne : Nat → Nat → Prop}
  {fpAll : Bool → Bool → Bool → Nat → Nat → Prop}
  {brk : (Unit → Prop) → Prop}
  {yn : Nat → Nat}
  {rng : FuncId → Nat → SS → (Exit → SS → Prop) → Prop}
  {mget : TypeId → Value → Value → AHeap → Value → Bool → Prop}
  {mput : TypeId → Value → Value → Value → AHeap → AHeap → Prop}
  {mnew : AHeap → AHeap}
  {bytes : TypeId → TypeId → Option Addr → Nat → AHeap → ByteArray → Prop}
  {clr : List TypeId → List Value → AHeap → AHeap → Prop}
  (hA : AP F ⟨call, head, arith, cmp, scmp, bnot, bsame, conv, neg, imax, imin, ofNat, slen, place, inR, nz, geZ, rd, wr, push, next, mkOK, nat, zeros, sadd, eqAgg, cut, slc, sslc, strAt, part, app, cpy, putAt, fresh, lowered, bump, wrote, addN, lt, ne, fpAll, brk, yn, rng, mget, mput, mnew, bytes, clr⟩)
include hA

theorem fadd_ok {h : AHeap} (hlow : h.low ≤ h.next) {n d m e : Int} (hn : i64 n) (hd : i64 d) (hm : i64 m) (he : i64 e) {Q : Value → AHeap → Prop}
    (hQ : ∀ a b r, OpIs (· + ·) n d m e a b r → ∀ h', Ext h h' → Q (.tuple #[.agg #[.int .i64 a, .int .i64 b], .int .i64 r]) h') : call 58 [.agg #[.int .i64 n, .int .i64 d], .agg #[.int .i64 m, .int .i64 e]] h Q := by
  refine hA.bodyR Try.func58 r58_ok (hA.alike _ _ _ rfl) hlow ?_; (try (conv => cbv)); repeat (refine brk_ok hA ?_; (try (conv => cbv)))
  refine both_ok hA hlow hn hd hm he (fun r1 h1 k1 x1 => ⟨_, rfl, ?_⟩)
  ((try (conv => cbv)); repeat (refine brk_ok hA ?_; (try (conv => cbv))))
  refine br (r1 ≠ 0) (by rw [e_neq hA]) (fun c1 => ?_) (fun c1 => ?_) <;> (try (conv => cbv)) <;> repeat (refine brk_ok hA ?_; (try (conv => cbv)))
  · rcases k1 with ⟨q, _⟩ | ⟨rfl, q⟩
    · exact absurd q c1
    · exact hQ _ _ _ (.inl ⟨q, rfl, rfl, rfl⟩) _ x1
  rcases k1 with ⟨_, ⟨p, hp⟩, q, hq⟩ | ⟨q, _⟩
  · refine sum_ok hA (x1.lowOK hlow) hp hq (fun a b r ho h2 x2 => ⟨_, _, _, rfl, ?_⟩)
    ((try (conv => cbv)); repeat (refine brk_ok hA ?_; (try (conv => cbv))))
    exact hQ _ _ _ (.inr ⟨p, q, hp, hq, ho⟩) _ (x1.trans x2)
  · omega

theorem fsub_ok {h : AHeap} (hlow : h.low ≤ h.next) {n d m e : Int} (hn : i64 n) (hd : i64 d) (hm : i64 m) (he : i64 e) {Q : Value → AHeap → Prop}
    (hQ : ∀ a b r, OpIs (· - ·) n d m e a b r → ∀ h', Ext h h' → Q (.tuple #[.agg #[.int .i64 a, .int .i64 b], .int .i64 r]) h') : call 56 [.agg #[.int .i64 n, .int .i64 d], .agg #[.int .i64 m, .int .i64 e]] h Q := by
  refine hA.bodyR Try.func56 r56_ok (hA.alike _ _ _ rfl) hlow ?_; (try (conv => cbv)); repeat (refine brk_ok hA ?_; (try (conv => cbv)))
  refine both_ok hA hlow hn hd hm he (fun r1 h1 k1 x1 => ⟨_, rfl, ?_⟩)
  ((try (conv => cbv)); repeat (refine brk_ok hA ?_; (try (conv => cbv))))
  refine br (r1 ≠ 0) (by rw [e_neq hA]) (fun c1 => ?_) (fun c1 => ?_) <;> (try (conv => cbv)) <;> repeat (refine brk_ok hA ?_; (try (conv => cbv)))
  · rcases k1 with ⟨q, _⟩ | ⟨rfl, q⟩
    · exact absurd q c1
    · exact hQ _ _ _ (.inl ⟨q, rfl, rfl, rfl⟩) _ x1
  rcases k1 with ⟨_, ⟨p, hp⟩, q, hq⟩ | ⟨q, _⟩
  · have e1 : neg .i64 m = -m := by
      obtain ⟨rfl, _, h1, h2, _⟩ := hq
      rw [e_neg hA, wrap64 (by omega) (by omega)]; omega
    rw [e1]
    refine sum_ok hA (x1.lowOK hlow) hp hq.neg (fun a b r ho h2 x2 => ⟨_, _, _, rfl, ?_⟩)
    ((try (conv => cbv)); repeat (refine brk_ok hA ?_; (try (conv => cbv))))
    exact hQ _ _ _ (.inr ⟨p, q, hp, hq, by show outF (p - q) _ _ _; rw [Rat.sub_eq_add_neg]; exact ho⟩) _ (x1.trans x2)
  · omega

end Go.Proofs.Ytnokkniofajnhaa
