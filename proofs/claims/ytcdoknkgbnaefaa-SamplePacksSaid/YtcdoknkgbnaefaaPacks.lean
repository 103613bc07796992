/-
  fringelaw13.SamplePacks in the abstract machine: true.
-/
import Derived.Test.YtcdoknkgbnaefaaRUnpack
namespace Go.Proofs.Ytcdoknkgbnaefaa
open Go.Sim
set_option linter.unusedVariables false
set_option maxRecDepth 100000

variable {call : FuncId → List Value → AHeap → (Value → AHeap → Prop) → Prop}
  {head : FuncId → Nat → Nat → SS → (Exit → SS → Prop) → Prop}
  {arith : BinOp → IntKind → Int → Int → Int}
  {cmp : BinOp → Int → Int → Bool}
  {scmp : BinOp → ByteArray → ByteArray → Bool}
  {bnot : Bool → Bool}
  {bsame : Bool → Bool → Bool}
  {conv : IntKind → Int → Int}
  {neg : IntKind → Int → Int}
  {imax : Int → Int → Int}
  {imin : Int → Int → Int}
  {ofNat : Nat → Int}
  {slen : ByteArray → Int}
  {place : Nat → Int → Nat → Nat}
  {inR : Int → Nat → Prop}
  {nz : Int → Prop}
  {geZ : Int → Prop}
  {rd : AHeap → Nat → Nat → Nat → List Value → Prop}
  {wr : AHeap → Nat → Nat → List Value → AHeap → Prop}
  {push : AHeap → Nat → List Value → AHeap}
  {next : AHeap → Nat}
  {mkOK : Int → Int → Prop}
  {nat : Int → Nat}
  {zeros : List Value → Int → List Value}
  {sadd : ByteArray → ByteArray → (ByteArray → Prop) → Prop}
  {eqAgg : TypeId → Array Value → Array Value → (Bool → Prop) → Prop}
  {cut : Nat → Int → Prop}
  {slc : TypeId → Value → Option Value → Option Value → Option Value → (Option Addr → Nat → Nat → Prop) → Prop}
  {sslc : TypeId → ByteArray → Option Value → Option Value → (ByteArray → Prop) → Prop}
  {strAt : ByteArray → Int → (Int → Prop) → Prop}
  {part : TypeId → Array Value → Nat → Value → Prop}
  {app : List TypeId → List Value → AHeap → (Option Addr → Nat → Nat → AHeap → Prop) → Prop}
  {cpy : List TypeId → List Value → AHeap → (Int → AHeap → Prop) → Prop}
  {putAt : AHeap → Nat → Nat → List Value → AHeap}
  {fresh : AHeap → AHeap}
  {lowered : AHeap → AHeap → AHeap}
  {bump : AHeap → Nat → AHeap}
  {wrote : AHeap → AHeap → Bool}
  {addN : Nat → Nat → Nat}
  {lt : Nat → Nat → Prop}
  {ne : Nat → Nat → Prop}
  {fpAll : Bool → Bool → Bool → Nat → Nat → Prop}
  (hA : AOK progU hint prims ⟨call, head, arith, cmp, scmp, bnot, bsame, conv, neg, imax, imin, ofNat, slen, place, inR, nz, geZ, rd, wr, push, next, mkOK, nat, zeros, sadd, eqAgg, cut, slc, sslc, strAt, part, app, cpy, putAt, fresh, lowered, bump, wrote, addN, lt, ne, fpAll⟩)
include hA

theorem packs_ok {h : AHeap} (hlow : h.low ≤ h.next) {a ab : Option Addr} {n c nb cb : Nat} {l bs : List Int} (hs : Ints h .i64 a n l) (hb : Ints h .u8 ab nb bs) (hbs : bytesOK bs) (k : Int) (hk0 : -9223372036854775808 ≤ k) (hk1 : k < 9223372036854775808) {Q : Value → AHeap → Prop} (hQ : ∀ h', Ext h h' → Q (.bool true) h') : call 3 [.slice a n c, .slice ab nb cb, .int .i64 k] h Q := by
  have hl := hs.len
  have hlb := hb.len
  refine hA.body live Try.func3 (prims_none _ _ _) hlow ?_; (conv => cbv)
  refine long_ok hA hlow (fun r hr => ⟨_, rfl, ?_⟩)
  (conv => cbv)
  refine br (300 < (n : Int)) hr (fun c => ?_) (fun c => ?_) <;> (conv => cbv)
  · exact hQ _ (.refl _)
  refine br (300 < (nb : Int)) (by rw [e_gtr hA, e_ofNat hA]) (fun c2 => ?_) (fun c2 => ?_) <;> (conv => cbv)
  · exact hQ _ (.refl _)
  refine pack_ok hA hlow (by omega) hs (fun e1 a1 n1 c1 h1 hc1 he1 hi1 => ⟨_, _, _, _, rfl, ?_⟩)
  (conv => cbv)
  refine rpack_ok hA (he1.lowOK hlow) (by omega) (hs.ext he1) (fun e2 a2 n2 c2 h2 hc2 he2 hi2 => ⟨_, _, _, _, rfl, ?_⟩)
  (conv => cbv)
  have he12 := he1.trans he2
  refine unpack_ok hA (he12.lowOK hlow) (by omega) (hb.ext he12) hbs k (fun e3 a3 n3 c3 h3 hc3 he3 hi3 => ⟨_, _, _, _, rfl, ?_⟩)
  (conv => cbv)
  have he13 := he12.trans he3
  refine runpack_ok hA (he13.lowOK hlow) (by omega) (hb.ext he13) hbs k hk0 hk1 (fun e4 a4 n4 c4 h4 hc4 he4 hi4 => ⟨_, _, _, _, rfl, ?_⟩)
  (conv => cbv)
  have he14 := he13.trans he4
  have q1 : e1 = e2 := by rw [hc1, hc2]
  have q2 : e3 = e4 := by rw [hc3, hc4]
  subst q1 q2
  have hn1 : n1 ≤ 1000000 := by
    rw [← hi1.len]; split
    · unfold packL packN; simp; omega
    · simp
  have hn3 : n3 ≤ 1000000 := by
    rw [← hi3.len]; split
    · rename_i h0
      rw [outL_len]
      rw [hc3] at h0; unfold unpackE at h0
      split at h0
      · omega
      · omega
    · simp
  refine sameb_ok hA (he14.lowOK hlow) hn1 (hi1.ext (he2.trans (he3.trans he4))) (hi2.ext (he3.trans he4)) (fun r hr h5 he5 => ⟨_, rfl, ?_⟩)
  have hr : r = true := by rw [hr]; simp
  subst hr
  (conv => cbv)
  refine br (e1 = e1) (e_eql hA _ _) (fun c => ?_) (fun c => absurd rfl c) <;> (conv => cbv)
  refine same_ok hA ((he14.trans he5).lowOK hlow) hn3 (hi3.ext (he4.trans he5)) (hi4.ext he5) (fun r hr h6 he6 => ⟨_, rfl, ?_⟩)
  have hr : r = true := by rw [hr]; simp
  subst hr
  (conv => cbv)
  have hfin : cmp .eql e3 e3 = true := by rw [e_eql hA]; simp
  rw [hfin]
  exact hQ _ (he14.trans (he5.trans he6))

end Go.Proofs.Ytcdoknkgbnaefaa
