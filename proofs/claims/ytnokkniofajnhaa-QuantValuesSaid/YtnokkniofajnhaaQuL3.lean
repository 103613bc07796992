/-
  QuantValues: the law's function returns true.
-/
import Derived.Test.YtnokkniofajnhaaQuV
import Derived.Test.YtnokkniofajnhaaSeatL3
namespace Go.Proofs.Ytnokkniofajnhaa
open Go.Sim
set_option linter.unusedVariables false
set_option maxRecDepth 100000

variable {F : Prims}
  {call : FuncId → List Value → AHeap → (Value → AHeap → Prop) → Prop}
  {head : FuncId → Nat → Nat → SS → (Exit → SS → Prop) → Prop}
  {arith : BinOp → IntKind → Int → Int → Int}
  {cmp : BinOp → Int → Int → Bool}
  {scmp : BinOp → ByteArray → ByteArray → Bool}
  {bnot : Bool → Bool}
  {bsame : Bool → Bool → Bool}
  {conv : IntKind → Int → Int}
  {neg : IntKind → Int → Int}
  {imax : Int → Int → Int}
  {imin : Int → Int → Int}
  {ofNat : Nat → Int}
  {slen : ByteArray → Int}
  {place : Nat → Int → Nat → Nat}
  {inR : Int → Nat → Prop}
  {nz : Int → Prop}
  {geZ : Int → Prop}
  {rd : AHeap → Nat → Nat → Nat → List Value → Prop}
  {wr : AHeap → Nat → Nat → List Value → AHeap → Prop}
  {push : AHeap → Nat → List Value → AHeap}
  {next : AHeap → Nat}
  {mkOK : Int → Int → Prop}
  {nat : Int → Nat}
  {zeros : List Value → Int → List Value}
  {sadd : ByteArray → ByteArray → (ByteArray → Prop) → Prop}
  {eqAgg : TypeId → Array Value → Array Value → (Bool → Prop) → Prop}
  {cut : Nat → Int → Prop}
  {slc : TypeId → Value → Option Value → Option Value → Option Value → (Option Addr → Nat → Nat → Prop) → Prop}
  {sslc : TypeId → ByteArray → Option Value → Option Value → (ByteArray → Prop) → Prop}
  {strAt : ByteArray → Int → (Int → Prop) → Prop}
  {part : TypeId → Array Value → Nat → Value → Prop}
  {app : List TypeId → List Value → AHeap → (Option Addr → Nat → Nat → AHeap → Prop) → Prop}
  {cpy : List TypeId → List Value → AHeap → (Int → AHeap → Prop) → Prop}
  {putAt : AHeap → Nat → Nat → List Value → AHeap}
  {fresh : AHeap → AHeap}
  {lowered : AHeap → AHeap → AHeap}
  {bump : AHeap → Nat → AHeap}
  {wrote : AHeap → AHeap → Bool}
  {addN : Nat → Nat → Nat}
  {lt : Nat → Nat → Prop}
  {ne : Nat → Nat → Prop}
  {fpAll : Bool → Bool → Bool → Nat → Nat → Prop}
  {brk : (Unit → Prop) → Prop}
  {yn : Nat → Nat}
  {rng : FuncId → Nat → SS → (Exit → SS → Prop) → Prop}
  {mget : TypeId → Value → Value → AHeap → Value → Bool → Prop}
  {mput : TypeId → Value → Value → Value → AHeap → AHeap → Prop}
  {mnew : AHeap → AHeap}
  {bytes : TypeId → TypeId → Option Addr → Nat → AHeap → ByteArray → Prop}
  {clr : List TypeId → List Value → AHeap → AHeap → Prop}
  (hA : AP F ⟨call, head, arith, cmp, scmp, bnot, bsame, conv, neg, imax, imin, ofNat, slen, place, inR, nz, geZ, rd, wr, push, next, mkOK, nat, zeros, sadd, eqAgg, cut, slc, sslc, strAt, part, app, cpy, putAt, fresh, lowered, bump, wrote, addN, lt, ne, fpAll, brk, yn, rng, mget, mput, mnew, bytes, clr⟩)
include hA

theorem values_ok {h : AHeap} (hlow : h.low ≤ h.next) {a : Option Addr} {n c : Nat} {l : List Kr} (hl : Ks h a n l) (hi : allI64 l) {xn xd : Int} (hn : i64 xn) (hd : i64 xd) {Q : Value → AHeap → Prop}
    (hQ : ∀ h', Ext h h' → Q (.bool true) h') : call 3 [.slice a n c, .agg #[.int .i64 xn, .int .i64 xd]] h Q := by
  have hlen := hl.len
  refine hA.bodyR Try.func3 r3_ok (hA.alike _ _ _ rfl) hlow ?_; (try (conv => cbv)); repeat (refine brk_ok hA ?_; (try (conv => cbv)))
  refine long_ok hA hlow (fun r hr => ⟨_, rfl, ?_⟩)
  cases r with
  | true =>
    ((try (conv => cbv)); repeat (refine brk_ok hA ?_; (try (conv => cbv))))
    exact hQ h (.refl h)
  | false =>
  have hn60 : n ≤ 60 := by
    by_cases q : 60 < n
    · have := hr.2 q; cases this
    · omega
  ((try (conv => cbv)); repeat (refine brk_ok hA ?_; (try (conv => cbv))))
  refine appCopy_ok hA T22 kr_ok hl (by omega) (fun b' c' h1 ho hb1 hb2 x1 => ?_)
  have l1 := x1.lowOK hlow
  have hk : Ks h1 (some ⟨b', 0, none⟩) n l := by
    have := Own.rows ho kr_len (by omega) hb2
    rw [hlen] at this
    exact this
  ((try (conv => cbv)); repeat (refine brk_ok hA ?_; (try (conv => cbv))))
  refine value_ok hA l1 hk hi hn hd (fun u v e h2 k2 x2 => ⟨_, _, _, rfl, ?_⟩)
  have y2 := x1.trans x2
  have l2 := y2.lowOK hlow
  ((try (conv => cbv)); repeat (refine brk_ok hA ?_; (try (conv => cbv))))
  refine rvalue_ok hA l2 (hl.ext y2) hi hn hd (fun u' v' e' h3 k3 x3 => ⟨_, _, _, rfl, ?_⟩)
  have y3 := y2.trans x3
  have l3 := y3.lowOK hlow
  obtain ⟨rfl, rfl, rfl⟩ := k2.uniq k3
  ((try (conv => cbv)); repeat (refine brk_ok hA ?_; (try (conv => cbv))))
  refine inverse_ok hA l3 (hk.ext (x2.trans x3)) hi (fun a4 n4 c4 e4 h4 k4 s4 x4 => ⟨_, _, _, _, rfl, ?_⟩)
  have y4 := y3.trans x4
  have l4 := y4.lowOK hlow
  ((try (conv => cbv)); repeat (refine brk_ok hA ?_; (try (conv => cbv))))
  refine rinverse_ok hA l4 (hl.ext y4) hi (fun a5 n5 c5 e5 h5 k5 s5 x5 => ⟨_, _, _, _, rfl, ?_⟩)
  have y5 := y4.trans x5
  have l5 := y5.lowOK hlow
  obtain rfl := k4.uniq k5
  ((try (conv => cbv)); repeat (refine brk_ok hA ?_; (try (conv => cbv))))
  refine qcheck_ok hA l5 (hk.ext (x2.trans (x3.trans (x4.trans x5)))) hi (fun e6 h6 k6 x6 => ⟨_, rfl, ?_⟩)
  have y6 := y5.trans x6
  have l6 := y6.lowOK hlow
  ((try (conv => cbv)); repeat (refine brk_ok hA ?_; (try (conv => cbv))))
  refine rqcheck_ok hA l6 (hl.ext y6) hi (fun e7 h7 k7 x7 => ⟨_, rfl, ?_⟩)
  have y7 := y6.trans x7
  have l7 := y7.lowOK hlow
  obtain rfl := k6.uniq k7
  ((try (conv => cbv)); repeat (refine brk_ok hA ?_; (try (conv => cbv))))
  refine br True (by rw [e_eql hA]; simp) (fun _ => ?_) (fun q => absurd trivial q) <;> (try (conv => cbv)) <;> repeat (refine brk_ok hA ?_; (try (conv => cbv)))
  obtain ⟨r, hr1, hr2⟩ := eqF u v u v
  rw [e_eqAgg hA]
  refine ⟨guardF, r, hr1, ?_⟩
  obtain rfl : r = true := hr2.2 ⟨rfl, rfl⟩
  ((try (conv => cbv)); repeat (refine brk_ok hA ?_; (try (conv => cbv))))
  refine br True (by rw [e_eql hA]; simp) (fun _ => ?_) (fun q => absurd trivial q) <;> (try (conv => cbv)) <;> repeat (refine brk_ok hA ?_; (try (conv => cbv)))
  have inv64 : allI64 (invL l e4) := by
    unfold invL
    split
    · exact hi.turn
    · intro i i0 i1; simp at i1; omega
  have n45 : n4 ≤ 100000 := by
    have := s4.len
    unfold invL at this
    split at this
    · rw [turnR_len] at this; omega
    · simp at this; omega
  refine same_ok hA l7 (s4.ext (x5.trans (x6.trans x7))) inv64 (s5.ext (x6.trans x7)) inv64 n45 (fun r8 h8 k8 x8 => ⟨_, rfl, ?_⟩)
  have y8 := y7.trans x8
  have l8 := y8.lowOK hlow
  obtain rfl : r8 = true := k8.2 rfl
  ((try (conv => cbv)); repeat (refine brk_ok hA ?_; (try (conv => cbv))))
  refine br True (by rw [e_eql hA]; simp) (fun _ => ?_) (fun q => absurd trivial q) <;> (try (conv => cbv)) <;> repeat (refine brk_ok hA ?_; (try (conv => cbv)))
  refine same_ok hA l8 (hk.ext (x2.trans (x3.trans (x4.trans (x5.trans (x6.trans (x7.trans x8))))))) hi (hl.ext y8) hi (by omega) (fun r9 h9 k9 x9 => ⟨_, rfl, ?_⟩)
  obtain rfl : r9 = true := k9.2 rfl
  ((try (conv => cbv)); repeat (refine brk_ok hA ?_; (try (conv => cbv))))
  exact hQ h9 (y8.trans x9)

end Go.Proofs.Ytnokkniofajnhaa
