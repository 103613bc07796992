/-
  The law OriginNeeds.
-/
import Derived.Test.YtopppccddnplkaaORRemake
import Derived.Test.YtopppccddnplkaaOGreat
import Derived.Test.YtopppccddnplkaaSeatL4
namespace Go.Proofs.Ytopppccddnplkaa
open Go.Sim
open Classical
set_option linter.unusedVariables false
set_option maxRecDepth 100000

theorem Small.ok {l : List Rec} (h : Small l) (hr : ∀ y ∈ l, okR y) : okL l := by
  intro r hm
  obtain ⟨j, hj⟩ := List.getElem?_of_mem hm
  have hjl : j < l.length := (List.getElem?_eq_some_iff.1 hj).1
  have := h.1 j (by omega) (by omega)
  unfold rat at this
  rw [Int.toNat_natCast, List.getD, hj] at this
  exact ⟨hr r hm, Nat.le_trans this.1 (by omega), Nat.le_trans this.2.1 (by omega)⟩

variable {call : FuncId → List Value → AHeap → (Value → AHeap → Prop) → Prop}
  {head : FuncId → Nat → Nat → SS → (Exit → SS → Prop) → Prop}
  {arith : BinOp → IntKind → Int → Int → Int}
  {cmp : BinOp → Int → Int → Bool}
  {scmp : BinOp → ByteArray → ByteArray → Bool}
  {bnot : Bool → Bool}
  {bsame : Bool → Bool → Bool}
  {conv : IntKind → Int → Int}
  {neg : IntKind → Int → Int}
  {imax : Int → Int → Int}
  {imin : Int → Int → Int}
  {ofNat : Nat → Int}
  {slen : ByteArray → Int}
  {place : Nat → Int → Nat → Nat}
  {inR : Int → Nat → Prop}
  {nz : Int → Prop}
  {geZ : Int → Prop}
  {rd : AHeap → Nat → Nat → Nat → List Value → Prop}
  {wr : AHeap → Nat → Nat → List Value → AHeap → Prop}
  {push : AHeap → Nat → List Value → AHeap}
  {next : AHeap → Nat}
  {mkOK : Int → Int → Prop}
  {nat : Int → Nat}
  {zeros : List Value → Int → List Value}
  {sadd : ByteArray → ByteArray → (ByteArray → Prop) → Prop}
  {eqAgg : TypeId → Array Value → Array Value → (Bool → Prop) → Prop}
  {cut : Nat → Int → Prop}
  {slc : TypeId → Value → Option Value → Option Value → Option Value → (Option Addr → Nat → Nat → Prop) → Prop}
  {sslc : TypeId → ByteArray → Option Value → Option Value → (ByteArray → Prop) → Prop}
  {strAt : ByteArray → Int → (Int → Prop) → Prop}
  {part : TypeId → Array Value → Nat → Value → Prop}
  {app : List TypeId → List Value → AHeap → (Option Addr → Nat → Nat → AHeap → Prop) → Prop}
  {cpy : List TypeId → List Value → AHeap → (Int → AHeap → Prop) → Prop}
  {putAt : AHeap → Nat → Nat → List Value → AHeap}
  {fresh : AHeap → AHeap}
  {lowered : AHeap → AHeap → AHeap}
  {bump : AHeap → Nat → AHeap}
  {wrote : AHeap → AHeap → Bool}
  {addN : Nat → Nat → Nat}
  {lt : Nat → Nat → Prop}
  {ne : Nat → Nat → Prop}
  {fpAll : Bool → Bool → Bool → Nat → Nat → Prop}
  {brk : (Unit → Prop) → Prop}
  {yn : Nat → Nat}
  {rng : FuncId → Nat → SS → (Exit → SS → Prop) → Prop}
  {mget : TypeId → Value → Value → AHeap → Value → Bool → Prop}
  {mput : TypeId → Value → Value → Value → AHeap → AHeap → Prop}
  {mnew : AHeap → AHeap}
  {bytes : TypeId → TypeId → Option Addr → Nat → AHeap → ByteArray → Prop}
  {clr : List TypeId → List Value → AHeap → AHeap → Prop}
  (hA : AOK progU hint prims ⟨call, head, arith, cmp, scmp, bnot, bsame, conv, neg, imax, imin, ofNat, slen, place, inR, nz, geZ, rd, wr, push, next, mkOK, nat, zeros, sadd, eqAgg, cut, slc, sslc, strAt, part, app, cpy, putAt, fresh, lowered, bump, wrote, addN, lt, ne, fpAll, brk, yn, rng, mget, mput, mnew, bytes, clr⟩)
include hA

theorem needsLaw_ok {h : AHeap} (hlow : h.low ≤ h.next) {al : Option Addr} {nl cl : Nat} {l : List Rec} (hl : Recs h al nl l) (hcap : nl ≤ capLow cl) (hnl : (nl : Int) ≤ 9223372036854775807) (hr : ∀ y ∈ l, okR y) {ha : Option Addr} {hn hc : Nat} {hv : List Str} (hh : Strs h ha hn hc hv) (hhn : (hn : Int) ≤ 9223372036854775807) {name : Str} {Q : Value → AHeap → Prop}
    (hQ : ∀ h', Ext h h' → Q (.bool true) h') : call 4 [.slice al nl cl, .slice ha hn hc, .string name] h Q := by
  have hll := hl.len
  have hhl := hh.len
  refine hA.bodyR Try.func4 r4_ok (show prims _ _ _ = none from rfl) hlow ?_; (try (conv => cbv)); repeat (refine brk_ok hA ?_; (try (conv => cbv)))
  refine great_ok hA hlow hl hnl (fun g hg => ⟨_, rfl, ?_⟩)
  cases g with
  | true =>
    ((try (conv => cbv)); repeat (refine brk_ok hA ?_; (try (conv => cbv))))
    exact hQ h (.refl h)
  | false =>
  have hsm := hg rfl
  ((try (conv => cbv)); repeat (refine brk_ok hA ?_; (try (conv => cbv))))
  refine br (100 < (name.size : Int)) (by rw [e_gtr hA, e_slen hA]) (fun c1 => ?_) (fun c1 => ?_) <;> (try (conv => cbv)) <;> repeat (refine brk_ok hA ?_; (try (conv => cbv)))
  · exact hQ h (.refl h)
  refine long_ok hA hlow hh hhn (fun g hg => ⟨_, rfl, ?_⟩)
  cases g with
  | true =>
    ((try (conv => cbv)); repeat (refine brk_ok hA ?_; (try (conv => cbv))))
    exact hQ h (.refl h)
  | false =>
  obtain ⟨hv20, _⟩ := hg rfl
  have hok := hsm.ok hr
  have h50 : nl ≤ 50 := by have := hsm.2; omega
  ((try (conv => cbv)); repeat (refine brk_ok hA ?_; (try (conv => cbv))))
  refine needs_ok hA hlow hl (fun _ => hok) (fun a1 n1 k1 e1 r1 h1 x1 s1 i1 b1 => ⟨_, _, _, _, rfl, ?_⟩)
  ((try (conv => cbv)); repeat (refine brk_ok hA ?_; (try (conv => cbv))))
  refine rneeds_ok hA (x1.lowOK hlow) (hl.ext x1) hcap (by omega) (fun _ => hok) (fun a2 n2 k2 e2 r2 h2 x2 s2 i2 b2 => ⟨_, _, _, _, rfl, ?_⟩)
  ((try (conv => cbv)); repeat (refine brk_ok hA ?_; (try (conv => cbv))))
  have x12 := x1.trans x2
  refine remake_ok hA (x12.lowOK hlow) (hl.ext x12) (fun _ => hok) (hh.ext x12) (by omega) (fun a3 n3 k3 e3 r3 h3 x3 s3 i3 b3 => ⟨_, _, _, _, rfl, ?_⟩)
  ((try (conv => cbv)); repeat (refine brk_ok hA ?_; (try (conv => cbv))))
  have x13 := x12.trans x3
  refine rremake_ok hA (x13.lowOK hlow) (hl.ext x13) hcap (by omega) (fun _ => hok) (hh.ext x13) (by omega) (fun a4 n4 k4 e4 r4 h4 x4 s4 i4 b4 => ⟨_, _, _, _, rfl, ?_⟩)
  ((try (conv => cbv)); repeat (refine brk_ok hA ?_; (try (conv => cbv))))
  have x14 := x13.trans x4
  obtain ⟨q1, q2⟩ := i1.uniq i2
  obtain ⟨q3, q4⟩ := i3.uniq i4
  subst q1 q2 q3 q4
  have hself : ∀ b : Bool, (b = true ↔ r1 = r1) → b = true := fun b q => q.2 rfl
  refine sames_ok hA (x14.lowOK hlow) (by omega) (s1.ext ((x2.trans x3).trans x4)) (s2.ext (x3.trans x4)) (fun b h5 x5 hb => ⟨_, rfl, ?_⟩)
  obtain rfl := hb.2 rfl
  ((try (conv => cbv)); repeat (refine brk_ok hA ?_; (try (conv => cbv))))
  refine br (e1 = e1) (by rw [e_eql hA]) (fun _ => ?_) (fun q => absurd rfl q) <;> (try (conv => cbv)) <;> repeat (refine brk_ok hA ?_; (try (conv => cbv)))
  refine sames_ok hA (x5.lowOK (x14.lowOK hlow)) (by omega) (s3.ext (x4.trans x5)) (s4.ext x5) (fun b h6 x6 hb => ⟨_, rfl, ?_⟩)
  obtain rfl := hb.2 rfl
  ((try (conv => cbv)); repeat (refine brk_ok hA ?_; (try (conv => cbv))))
  have hc : cmp .eql e3 e3 = true := by rw [e_eql hA]; simp
  rw [hc]
  exact hQ h6 ((x14.trans x5).trans x6)

end Go.Proofs.Ytopppccddnplkaa
