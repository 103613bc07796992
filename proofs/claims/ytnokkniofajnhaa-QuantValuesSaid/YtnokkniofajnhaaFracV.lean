/-
  fringeref01: Cmp.
-/
import Derived.Test.YtnokkniofajnhaaFracU
import Derived.Test.YtnokkniofajnhaaSeatT
namespace Go.Proofs.Ytnokkniofajnhaa
open Go.Sim
set_option linter.unusedVariables false
set_option maxRecDepth 100000

theorem cmpF_eq {p : Rat} : cmpF p p = 0 := by
  unfold cmpF
  rw [if_neg Rat.lt_irrefl, if_pos rfl]

variable {F : Prims}
  {call : FuncId → List Value → AHeap → (Value → AHeap → Prop) → Prop}
  {head : FuncId → Nat → Nat → SS → (Exit → SS → Prop) → Prop}
  {arith : BinOp → IntKind → Int → Int → Int}
  {cmp : BinOp → Int → Int → Bool}
  {scmp : BinOp → ByteArray → ByteArray → Bool}
  {bnot : Bool → Bool}
  {bsame : Bool → Bool → Bool}
  {conv : IntKind → Int → Int}
  {neg : IntKind → Int → Int}
  {imax : Int → Int → Int}
  {imin : Int → Int → Int}
  {ofNat : Nat → Int}
  {slen : ByteArray → Int}
  {place : Nat → Int → Nat → Nat}
  {inR : Int → Nat → Prop}
  {nz : Int → Prop}
  {geZ : Int → Prop}
  {rd : AHeap → Nat → Nat → Nat → List Value → Prop}
  {wr : AHeap → Nat → Nat → List Value → AHeap → Prop}
  {push : AHeap → Nat → List Value → AHeap}
  {next : AHeap → Nat}
  {mkOK : Int → Int → Prop}
  {nat : Int → Nat}
  {zeros : List Value → Int → List Value}
  {sadd : ByteArray → ByteArray → (ByteArray → Prop) → Prop}
  {eqAgg : TypeId → Array Value → Array Value → (Bool → Prop) → Prop}
  {cut : Nat → Int → Prop}
  {slc : TypeId → Value → Option Value → Option Value → Option Value → (Option Addr → Nat → Nat → Prop) → Prop}
  {sslc : TypeId → ByteArray → Option Value → Option Value → (ByteArray → Prop) → Prop}
  {strAt : ByteArray → Int → (Int → Prop) → Prop}
  {part : TypeId → Array Value → Nat → Value → Prop}
  {app : List TypeId → List Value → AHeap → (Option Addr → Nat → Nat → AHeap → Prop) → Prop}
  {cpy : List TypeId → List Value → AHeap → (Int → AHeap → Prop) → Prop}
  {putAt : AHeap → Nat → Nat → List Value → AHeap}
  {fresh : AHeap → AHeap}
  {lowered : AHeap → AHeap → AHeap}
  {bump : AHeap → Nat → AHeap}
  {wrote : AHeap → AHeap → Bool}
  {addN : Nat → Nat → Nat}
  {lt : Nat → Nat → Prop}
  {ne : Nat → Nat → Prop}
  {fpAll : Bool → Bool → Bool → Nat → Nat → Prop}
  {brk : (Unit → Prop) → Prop}
  {yn : Nat → Nat}
  {rng : FuncId → Nat → SS → (Exit → SS → Prop) → Prop}
  {mget : TypeId → Value → Value → AHeap → Value → Bool → Prop}
  {mput : TypeId → Value → Value → Value → AHeap → AHeap → Prop}
  {mnew : AHeap → AHeap}
  {bytes : TypeId → TypeId → Option Addr → Nat → AHeap → ByteArray → Prop}
  {clr : List TypeId → List Value → AHeap → AHeap → Prop}
  (hA : AP F ⟨call, head, arith, cmp, scmp, bnot, bsame, conv, neg, imax, imin, ofNat, slen, place, inR, nz, geZ, rd, wr, push, next, mkOK, nat, zeros, sadd, eqAgg, cut, slc, sslc, strAt, part, app, cpy, putAt, fresh, lowered, bump, wrote, addN, lt, ne, fpAll, brk, yn, rng, mget, mput, mnew, bytes, clr⟩)
include hA

theorem rcmp_ok {h : AHeap} (hlow : h.low ≤ h.next) {n d m e : Int} (hn : i64 n) (hd : i64 d) (hm : i64 m) (he : i64 e) {Q : Value → AHeap → Prop}
    (hQ : ∀ (c r : Int) h', CmpIs n d m e c r → Ext h h' → Q (.tuple #[.int .i64 c, .int .i64 r]) h') : call 46 [.agg #[.int .i64 n, .int .i64 d], .agg #[.int .i64 m, .int .i64 e]] h Q := by
  refine hA.bodyR Try.func46 r46_ok (hA.alike _ _ _ rfl) hlow ?_; (try (conv => cbv)); repeat (refine brk_ok hA ?_; (try (conv => cbv)))
  refine rboth_ok hA hlow hn hd hm he (fun r1 h1 k1 x1 => ⟨_, rfl, ?_⟩)
  ((try (conv => cbv)); repeat (refine brk_ok hA ?_; (try (conv => cbv))))
  refine br (r1 ≠ 0) (by rw [e_neq hA]) (fun c1 => ?_) (fun c1 => ?_) <;> (try (conv => cbv)) <;> repeat (refine brk_ok hA ?_; (try (conv => cbv)))
  · refine rboth_ok hA (x1.lowOK hlow) hn hd hm he (fun r3 h3 k3 x3 => ⟨_, rfl, ?_⟩)
    ((try (conv => cbv)); repeat (refine brk_ok hA ?_; (try (conv => cbv))))
    rcases k1 with ⟨q, _⟩ | ⟨rfl, q⟩
    · exact absurd q c1
    · rcases k3 with ⟨_, q3⟩ | ⟨rfl, _⟩
      · exact absurd q3 q
      · exact hQ _ _ _ (.inl ⟨q, rfl, rfl⟩) (x1.trans x3)
  rcases k1 with ⟨_, ⟨p, hp⟩, q, hq⟩ | ⟨q, _⟩
  rotate_left
  · omega
  obtain ⟨r, hr1, hr2⟩ := eqF n d m e
  rw [e_eqAgg hA]
  refine ⟨guardF, r, hr1, ?_⟩
  ((try (conv => cbv)); repeat (refine brk_ok hA ?_; (try (conv => cbv))))
  have hpq : p = q ↔ n = m ∧ d = e := by
    constructor
    · rintro rfl
      exact ⟨hp.1.trans hq.1.symm, hp.2.1.trans hq.2.1.symm⟩
    · rintro ⟨rfl, rfl⟩
      exact hp.uniq hq
  cases r with
  | true =>
    ((try (conv => cbv)); repeat (refine brk_ok hA ?_; (try (conv => cbv))))
    have e1 := hpq.2 (hr2.1 rfl)
    exact hQ _ _ _ (.inr ⟨p, q, hp, hq, by rw [e1, cmpF_eq], rfl⟩) x1
  | false =>
    ((try (conv => cbv)); repeat (refine brk_ok hA ?_; (try (conv => cbv))))
    have e1 : p ≠ q := fun w => by have := hr2.2 (hpq.1 w); cases this
    refine rless_ok hA (x1.lowOK hlow) hp hq (fun r h2 hr x2 => ⟨_, rfl, ?_⟩)
    cases r with
    | true =>
      ((try (conv => cbv)); repeat (refine brk_ok hA ?_; (try (conv => cbv))))
      exact hQ _ _ _ (.inr ⟨p, q, hp, hq, by unfold cmpF; rw [if_pos (hr.1 rfl)], rfl⟩) (x1.trans x2)
    | false =>
      ((try (conv => cbv)); repeat (refine brk_ok hA ?_; (try (conv => cbv))))
      exact hQ _ _ _ (.inr ⟨p, q, hp, hq, by unfold cmpF; rw [if_neg (fun w => by have := hr.2 w; cases this), if_neg e1], rfl⟩) (x1.trans x2)

end Go.Proofs.Ytnokkniofajnhaa
