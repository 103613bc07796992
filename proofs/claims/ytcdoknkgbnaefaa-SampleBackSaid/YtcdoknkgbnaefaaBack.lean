/-
  fringelaw13.SampleBack in the abstract machine: true.
-/
import Derived.Test.YtcdoknkgbnaefaaBackLaw
namespace Go.Proofs.Ytcdoknkgbnaefaa
open Go.Sim
set_option linter.unusedVariables false
set_option maxRecDepth 100000

variable {call : FuncId → List Value → AHeap → (Value → AHeap → Prop) → Prop}
  {head : FuncId → Nat → Nat → SS → (Exit → SS → Prop) → Prop}
  {arith : BinOp → IntKind → Int → Int → Int}
  {cmp : BinOp → Int → Int → Bool}
  {scmp : BinOp → ByteArray → ByteArray → Bool}
  {bnot : Bool → Bool}
  {bsame : Bool → Bool → Bool}
  {conv : IntKind → Int → Int}
  {neg : IntKind → Int → Int}
  {imax : Int → Int → Int}
  {imin : Int → Int → Int}
  {ofNat : Nat → Int}
  {slen : ByteArray → Int}
  {place : Nat → Int → Nat → Nat}
  {inR : Int → Nat → Prop}
  {nz : Int → Prop}
  {geZ : Int → Prop}
  {rd : AHeap → Nat → Nat → Nat → List Value → Prop}
  {wr : AHeap → Nat → Nat → List Value → AHeap → Prop}
  {push : AHeap → Nat → List Value → AHeap}
  {next : AHeap → Nat}
  {mkOK : Int → Int → Prop}
  {nat : Int → Nat}
  {zeros : List Value → Int → List Value}
  {sadd : ByteArray → ByteArray → (ByteArray → Prop) → Prop}
  {eqAgg : TypeId → Array Value → Array Value → (Bool → Prop) → Prop}
  {cut : Nat → Int → Prop}
  {slc : TypeId → Value → Option Value → Option Value → Option Value → (Option Addr → Nat → Nat → Prop) → Prop}
  {sslc : TypeId → ByteArray → Option Value → Option Value → (ByteArray → Prop) → Prop}
  {strAt : ByteArray → Int → (Int → Prop) → Prop}
  {part : TypeId → Array Value → Nat → Value → Prop}
  {app : List TypeId → List Value → AHeap → (Option Addr → Nat → Nat → AHeap → Prop) → Prop}
  {cpy : List TypeId → List Value → AHeap → (Int → AHeap → Prop) → Prop}
  {putAt : AHeap → Nat → Nat → List Value → AHeap}
  {fresh : AHeap → AHeap}
  {lowered : AHeap → AHeap → AHeap}
  {bump : AHeap → Nat → AHeap}
  {wrote : AHeap → AHeap → Bool}
  {addN : Nat → Nat → Nat}
  {lt : Nat → Nat → Prop}
  {ne : Nat → Nat → Prop}
  {fpAll : Bool → Bool → Bool → Nat → Nat → Prop}
  (hA : AOK progU hint prims ⟨call, head, arith, cmp, scmp, bnot, bsame, conv, neg, imax, imin, ofNat, slen, place, inR, nz, geZ, rd, wr, push, next, mkOK, nat, zeros, sadd, eqAgg, cut, slc, sslc, strAt, part, app, cpy, putAt, fresh, lowered, bump, wrote, addN, lt, ne, fpAll⟩)
include hA

theorem alive_ok {h : AHeap} {Q : Value → AHeap → Prop} (hQ : Q (.bool true) h) : call 29 [] h Q := hA.prim (v := .bool true) (h' := h) rfl hQ


theorem back_ok {h : AHeap} (hlow : h.low ≤ h.next) {a ab : Option Addr} {n c nb cb : Nat} {l bs : List Int} (hs : Ints h .i64 a n l) (hb : Ints h .u8 ab nb bs) (hbs : bytesOK bs) (k : Int) {Q : Value → AHeap → Prop} (hQ : ∀ h', Ext h h' → Q (.bool true) h') : call 8 [.slice a n c, .slice ab nb cb, .int .i64 k] h Q := by
  have hl := hs.len
  have hlb := hb.len
  have bt := e_bnot hA true
  refine hA.bodyR Try.func8 r8_ok (show prims _ _ _ = none from rfl) hlow ?_; (conv => cbv)
  refine alive_ok hA ⟨_, rfl, ?_⟩
  (conv => cbv)
  refine long_ok hA hlow (fun r hr => ⟨_, rfl, ?_⟩)
  (conv => cbv)
  refine br (300 < (n : Int)) hr (fun c => ?_) (fun c => ?_) <;> (conv => cbv)
  · exact hQ _ (.refl _)
  refine br (300 < (nb : Int)) (by rw [e_gtr hA, e_ofNat hA]) (fun c2 => ?_) (fun c2 => ?_) <;> (conv => cbv)
  · exact hQ _ (.refl _)
  rw [bt]
  (conv => cbv)
  refine rcheck_ok hA hlow (by omega) hs (fun r1 hr1 => ⟨_, rfl, ?_⟩)
  (conv => cbv)
  refine br (r1 = 0) (e_eql hA _ _) (fun c1 => ?_) (fun c1 => ?_) <;> (conv => cbv)
  · rw [c1] at hr1
    obtain ⟨g1, g2⟩ := checkF_zero hr1.symm
    refine pack_ok hA hlow (by omega) hs (fun e1 a1 n1 c1 h1 hc1 he1 hi1 => ⟨_, _, _, _, rfl, ?_⟩)
    have hc1' : e1 = 0 := by omega
    subst hc1'
    rw [if_pos rfl] at hi1
    have hn1 := hi1.len
    rw [packL_len] at hn1
    have hn2 : n1 ≤ 300 := by unfold packN at hn1; omega
    (conv => cbv)
    rw [e_ofNat hA]
    refine unpack_ok hA (he1.lowOK hlow) hn2 hi1 (packL_bytes l g2) (n : Int) (fun e2 a2 n2 c2 h2 hc2 he2 hi2 => ⟨_, _, _, _, rfl, ?_⟩)
    rw [← hl, unpackE_pack l g2 g1] at hc2
    subst hc2
    rw [if_pos rfl, Int.toNat_natCast, ← hl, out_pack l g2] at hi2
    (conv => cbv)
    refine br ((0 : Int) ≠ 0) (e_neq hA _ _) (fun d4 => absurd rfl d4) (fun d4 => ?_) <;> (conv => cbv)
    refine br ((0 : Int) ≠ 0) (e_neq hA _ _) (fun d4 => absurd rfl d4) (fun d4 => ?_) <;> (conv => cbv)
    have he12 := he1.trans he2
    refine same_ok hA (he12.lowOK hlow) (by omega) (hs.ext he12) hi2 (fun r5 hr5 h5 he5 => ⟨_, rfl, ?_⟩)
    have hr5 : r5 = true := by rw [hr5]; simp
    subst hr5
    (conv => cbv)
    rw [bt]
    (conv => cbv)
    replace he1 := he12.trans he5
    refine unpack_ok hA (he1.lowOK hlow) (by omega) (hb.ext he1) hbs k (fun e3 a3 n3 c3 h3 hc3 he3 hi3 => ⟨_, _, _, _, rfl, ?_⟩)
    (conv => cbv)
    have he13 := he1.trans he3
    refine br (e3 ≠ 0) (e_neq hA _ _) (fun d1 => ?_) (fun d1 => ?_) <;> (conv => cbv)
    · rw [if_neg d1] at hi3
      have hz : n3 = 0 := by have := hi3.len; simpa using this.symm
      subst hz
      have hfin : cmp .eql (ofNat 0) 0 = true := by rw [e_eql hA, e_ofNat hA]; rfl
      rw [hfin]
      (conv => cbv)
      exact hQ _ he13
    have d2 : e3 = 0 := by omega
    subst d2
    rw [if_pos rfl] at hi3
    obtain ⟨pb, k0, k1, k2⟩ := pack_out bs hbs hc3.symm
    have hn3 := hi3.len
    rw [outL_len] at hn3
    refine pack_ok hA (he13.lowOK hlow) (by omega) hi3 (fun e4 a4 n4 c4 h4 hc4 he4 hi4 => ⟨_, _, _, _, rfl, ?_⟩)
    rw [outL_check bs (by omega)] at hc4
    subst hc4
    rw [if_pos rfl, pb] at hi4
    have he14 := he13.trans he4
    have hn4 := hi4.len
    (conv => cbv)
    refine br ((n3 : Int) = k) (by rw [e_eql hA, e_ofNat hA]) (fun d3 => ?_) (fun d3 => absurd (by omega) d3) <;> (conv => cbv)
    refine br ((0 : Int) = 0) (e_eql hA _ _) (fun d4 => ?_) (fun d4 => absurd rfl d4) <;> (conv => cbv)
    refine sameb_ok hA (he14.lowOK hlow) (by omega) hi4 (hb.ext he14) (fun r5 hr5 h5 he5 => ⟨_, rfl, ?_⟩)
    have hr5 : r5 = true := by rw [hr5]; simp
    subst hr5
    (conv => cbv)
    exact hQ _ (he14.trans he5)
  · have he1 := Ext.refl h
    refine unpack_ok hA (he1.lowOK hlow) (by omega) (hb.ext he1) hbs k (fun e3 a3 n3 c3 h3 hc3 he3 hi3 => ⟨_, _, _, _, rfl, ?_⟩)
    (conv => cbv)
    have he13 := he1.trans he3
    refine br (e3 ≠ 0) (e_neq hA _ _) (fun d1 => ?_) (fun d1 => ?_) <;> (conv => cbv)
    · rw [if_neg d1] at hi3
      have hz : n3 = 0 := by have := hi3.len; simpa using this.symm
      subst hz
      have hfin : cmp .eql (ofNat 0) 0 = true := by rw [e_eql hA, e_ofNat hA]; rfl
      rw [hfin]
      (conv => cbv)
      exact hQ _ he13
    have d2 : e3 = 0 := by omega
    subst d2
    rw [if_pos rfl] at hi3
    obtain ⟨pb, k0, k1, k2⟩ := pack_out bs hbs hc3.symm
    have hn3 := hi3.len
    rw [outL_len] at hn3
    refine pack_ok hA (he13.lowOK hlow) (by omega) hi3 (fun e4 a4 n4 c4 h4 hc4 he4 hi4 => ⟨_, _, _, _, rfl, ?_⟩)
    rw [outL_check bs (by omega)] at hc4
    subst hc4
    rw [if_pos rfl, pb] at hi4
    have he14 := he13.trans he4
    have hn4 := hi4.len
    (conv => cbv)
    refine br ((n3 : Int) = k) (by rw [e_eql hA, e_ofNat hA]) (fun d3 => ?_) (fun d3 => absurd (by omega) d3) <;> (conv => cbv)
    refine br ((0 : Int) = 0) (e_eql hA _ _) (fun d4 => ?_) (fun d4 => absurd rfl d4) <;> (conv => cbv)
    refine sameb_ok hA (he14.lowOK hlow) (by omega) hi4 (hb.ext he14) (fun r5 hr5 h5 he5 => ⟨_, rfl, ?_⟩)
    have hr5 : r5 = true := by rw [hr5]; simp
    subst hr5
    (conv => cbv)
    exact hQ _ (he14.trans he5)

end Go.Proofs.Ytcdoknkgbnaefaa
