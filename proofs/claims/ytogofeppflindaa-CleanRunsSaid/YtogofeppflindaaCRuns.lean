/-
  The law CleanRuns: its walk.
-/
import Derived.Test.YtogofeppflindaaCRunsA
import Derived.Test.YtogofeppflindaaSeatL3
namespace Go.Proofs.Ytogofeppflindaa
open Go.Sim
set_option linter.unusedVariables false
set_option maxRecDepth 100000

variable {call : FuncId → List Value → AHeap → (Value → AHeap → Prop) → Prop}
  {head : FuncId → Nat → Nat → SS → (Exit → SS → Prop) → Prop}
  {arith : BinOp → IntKind → Int → Int → Int}
  {cmp : BinOp → Int → Int → Bool}
  {scmp : BinOp → ByteArray → ByteArray → Bool}
  {bnot : Bool → Bool}
  {bsame : Bool → Bool → Bool}
  {conv : IntKind → Int → Int}
  {neg : IntKind → Int → Int}
  {imax : Int → Int → Int}
  {imin : Int → Int → Int}
  {ofNat : Nat → Int}
  {slen : ByteArray → Int}
  {place : Nat → Int → Nat → Nat}
  {inR : Int → Nat → Prop}
  {nz : Int → Prop}
  {geZ : Int → Prop}
  {rd : AHeap → Nat → Nat → Nat → List Value → Prop}
  {wr : AHeap → Nat → Nat → List Value → AHeap → Prop}
  {push : AHeap → Nat → List Value → AHeap}
  {next : AHeap → Nat}
  {mkOK : Int → Int → Prop}
  {nat : Int → Nat}
  {zeros : List Value → Int → List Value}
  {sadd : ByteArray → ByteArray → (ByteArray → Prop) → Prop}
  {eqAgg : TypeId → Array Value → Array Value → (Bool → Prop) → Prop}
  {cut : Nat → Int → Prop}
  {slc : TypeId → Value → Option Value → Option Value → Option Value → (Option Addr → Nat → Nat → Prop) → Prop}
  {sslc : TypeId → ByteArray → Option Value → Option Value → (ByteArray → Prop) → Prop}
  {strAt : ByteArray → Int → (Int → Prop) → Prop}
  {part : TypeId → Array Value → Nat → Value → Prop}
  {app : List TypeId → List Value → AHeap → (Option Addr → Nat → Nat → AHeap → Prop) → Prop}
  {cpy : List TypeId → List Value → AHeap → (Int → AHeap → Prop) → Prop}
  {putAt : AHeap → Nat → Nat → List Value → AHeap}
  {fresh : AHeap → AHeap}
  {lowered : AHeap → AHeap → AHeap}
  {bump : AHeap → Nat → AHeap}
  {wrote : AHeap → AHeap → Bool}
  {addN : Nat → Nat → Nat}
  {lt : Nat → Nat → Prop}
  {ne : Nat → Nat → Prop}
  {fpAll : Bool → Bool → Bool → Nat → Nat → Prop}
  {brk : (Unit → Prop) → Prop}
  {yn : Nat → Nat}
  {rng : FuncId → Nat → SS → (Exit → SS → Prop) → Prop}
  {mget : TypeId → Value → Value → AHeap → Value → Bool → Prop}
  {mput : TypeId → Value → Value → Value → AHeap → AHeap → Prop}
  {mnew : AHeap → AHeap}
  {bytes : TypeId → TypeId → Option Addr → Nat → AHeap → ByteArray → Prop}
  {clr : List TypeId → List Value → AHeap → AHeap → Prop}
  (hA : AOK progU hint prims ⟨call, head, arith, cmp, scmp, bnot, bsame, conv, neg, imax, imin, ofNat, slen, place, inR, nz, geZ, rd, wr, push, next, mkOK, nat, zeros, sadd, eqAgg, cut, slc, sslc, strAt, part, app, cpy, putAt, fresh, lowered, bump, wrote, addN, lt, ne, fpAll, brk, yn, rng, mget, mput, mnew, bytes, clr⟩)
include hA

theorem runs_ok {h : AHeap} (hlow : h.low ≤ h.next) {a : Option Addr} {m k : Nat} {img : Grid} (hg : Img h a m img) (hm : (m : Int) ≤ 9223372036854775807) {ab : Option Addr} {mb kb : Nat} {bm : Grid} (hb : Img h ab mb bm) (hmb : (mb : Int) ≤ 9223372036854775807) (c : Cln) {Q : Value → AHeap → Prop}
    (hQ : ∀ h', Ext h h' → Q (.bool true) h') : call 3 [.slice a m k, .slice ab mb kb, .agg c.cells.toArray] h Q := by
  obtain ⟨num, den, floor, steps⟩ := c
  have hgl := hg.len
  refine hA.bodyR Try.func3 r3_ok (show prims _ _ _ = none from rfl) hlow ?_; (try (conv => cbv)); repeat (refine brk_ok hA ?_; (try (conv => cbv)))
  refine great_ok2 hA hlow hg hm (fun r hr => ⟨_, rfl, ?_⟩)
  ((try (conv => cbv)); repeat (refine brk_ok hA ?_; (try (conv => cbv))))
  cases r with
  | true =>
    ((try (conv => cbv)); repeat (refine brk_ok hA ?_; (try (conv => cbv))))
    exact hQ h (.refl _)
  | false =>
    ((try (conv => cbv)); repeat (refine brk_ok hA ?_; (try (conv => cbv))))
    refine great_ok2 hA hlow hb hmb (fun r2 hr2 => ⟨_, rfl, ?_⟩)
    ((try (conv => cbv)); repeat (refine brk_ok hA ?_; (try (conv => cbv))))
    cases r2 with
    | true =>
      ((try (conv => cbv)); repeat (refine brk_ok hA ?_; (try (conv => cbv))))
      exact hQ h (.refl _)
    | false =>
      ((try (conv => cbv)); repeat (refine brk_ok hA ?_; (try (conv => cbv))))
      have ng : ¬ greatP img := fun q => by have := hr.2 q; cases this
      have ng1 : (img.length : Int) ≤ 20 := by
        rcases Int.lt_or_le 20 (img.length : Int) with q | q
        · exact absurd (.inl q) ng
        · exact q
      have ng2 : ∀ y : Int, 0 ≤ y → y < m → ((rowAt img y).length : Int) ≤ 20 := fun y y0 y1 => by
        rcases Int.lt_or_le 20 ((rowAt img y).length : Int) with q | q
        · exact absurd (.inr ⟨y, y0, by omega, q⟩) ng
        · exact q
      refine twin_ok hA hlow hg (by omega) (fun y y0 y1 => by have := ng2 y y0 y1; omega) (fun at1 ct1 bt1 h1 x1 ho1 => ⟨_, _, _, rfl, ?_⟩)
      ((try (conv => cbv)); repeat (refine brk_ok hA ?_; (try (conv => cbv))))
      refine clean_is hA (x1.lowOK hlow) (hg.ext x1) (hb.ext x1) (c := ⟨num, den, floor, steps⟩) (.inl rfl) (fun a2 m2 c2 al2 kl2 cl2 e2 h2 x2' p2 => ⟨_, _, _, _, _, _, _, rfl, ?_⟩)
      have x2 := x1.trans x2'
      ((try (conv => cbv)); repeat (refine brk_ok hA ?_; (try (conv => cbv))))
      refine clean_is hA (x2.lowOK hlow) (hg.ext x2) (hb.ext x2) (c := ⟨num, den, floor, steps⟩) (.inr rfl) (fun a3 m3 c3 al3 kl3 cl3 e3 h3 x3' p3 => ⟨_, _, _, _, _, _, _, rfl, ?_⟩)
      have x3 := x2.trans x3'
      ((try (conv => cbv)); repeat (refine brk_ok hA ?_; (try (conv => cbv))))
      refine peak_ok hA (x3.lowOK hlow) (hg.ext x3) (fun xx yy vv ee pk => ⟨_, _, _, _, rfl, ?_⟩)
      ((try (conv => cbv)); repeat (refine brk_ok hA ?_; (try (conv => cbv))))
      refine rpeak_ok hA (x3.lowOK hlow) (hg.ext x3) (fun xx' yy' vv' ee' h4 x4' pk' => ⟨_, _, _, _, rfl, ?_⟩)
      obtain ⟨u1, u2, u3, u4⟩ := pk.uniq pk'
      have x4 := x3.trans x4'
      ((try (conv => cbv)); repeat (refine brk_ok hA ?_; (try (conv => cbv))))
      obtain ⟨X4, hX4⟩ : ∃ v, v = bump h4 50 := ⟨_, rfl⟩
      have b4 : Ext h4 X4 := by rw [hX4, e_bump hA]; exact .bump _ _
      have y4 : Ext h X4 := x4.trans b4
      rw [← hX4]
      have f4 := ext_fresh hA X4
      refine chk_ok hA (low_fresh hA X4) (hg.ext (y4.trans f4)) (hb.ext (y4.trans f4)) (c := ⟨num, den, floor, steps⟩) (fun e5 he5 => ⟨_, rfl, ?_⟩)
      ((try (conv => cbv)); repeat (refine brk_ok hA ?_; (try (conv => cbv))))
      obtain ⟨X5, hX5⟩ : ∃ v, v = lowered X4 (fresh X4) := ⟨_, rfl⟩
      have z5 : Ext h4 X5 := by rw [hX5]; exact ext_low hA (x4.lowOK hlow) b4 (.refl _)
      have y5 := x4.trans z5
      rw [← hX5]
      have f5 := ext_fresh hA X5
      refine rchk_ok hA (low_fresh hA X5) (hg.ext (y5.trans f5)) (hb.ext (y5.trans f5)) (c := ⟨num, den, floor, steps⟩) (fun e6 he6 => ⟨_, rfl, ?_⟩)
      have u56 := he5.uniq he6
      ((try (conv => cbv)); repeat (refine brk_ok hA ?_; (try (conv => cbv))))
      obtain ⟨X6, hX6⟩ : ∃ v, v = lowered X5 (fresh X5) := ⟨_, rfl⟩
      have z6 : Ext h4 X6 := by rw [hX6]; exact ext_low hA (x4.lowOK hlow) z5 (.refl _)
      rw [← hX6]
      refine br (e5 = e6) (by rw [e_eql hA]) (fun _ => ?_) (fun q => absurd u56 q) <;> (try (conv => cbv)) <;> repeat (refine brk_ok hA ?_; (try (conv => cbv)))
      have w2 := p2.ext (x3'.trans x4')
      have w3 := p3.ext x4'
      refine same_ansC hA (low_fresh hA X6) (w2.ext (z6.trans (ext_fresh hA X6))) (w3.ext (z6.trans (ext_fresh hA X6))) (fun h7 x7 => ⟨_, rfl, ?_⟩)
      ((try (conv => cbv)); repeat (refine brk_ok hA ?_; (try (conv => cbv))))
      obtain ⟨X7, hX7⟩ : ∃ v, v = lowered X6 h7 := ⟨_, rfl⟩
      have z7 : Ext h4 X7 := by rw [hX7]; exact ext_low hA (x4.lowOK hlow) z6 x7
      rw [← hX7]
      refine samelog_ansC hA (low_fresh hA X7) (w2.ext (z7.trans (ext_fresh hA X7))) (w3.ext (z7.trans (ext_fresh hA X7))) (fun h8 x8 => ⟨_, rfl, ?_⟩)
      ((try (conv => cbv)); repeat (refine brk_ok hA ?_; (try (conv => cbv))))
      obtain ⟨X8, hX8⟩ : ∃ v, v = lowered X7 h8 := ⟨_, rfl⟩
      have z8 : Ext h4 X8 := by rw [hX8]; exact ext_low hA (x4.lowOK hlow) z7 x8
      rw [← hX8]
      refine br (e2 = e3) (by rw [e_eql hA]) (fun _ => ?_) (fun q => absurd (p2.num p3) q) <;> (try (conv => cbv)) <;> repeat (refine brk_ok hA ?_; (try (conv => cbv)))
      refine br (xx = xx') (by rw [e_eql hA]) (fun _ => ?_) (fun q => absurd u1 q) <;> (try (conv => cbv)) <;> repeat (refine brk_ok hA ?_; (try (conv => cbv)))
      refine br (yy = yy') (by rw [e_eql hA]) (fun _ => ?_) (fun q => absurd u2 q) <;> (try (conv => cbv)) <;> repeat (refine brk_ok hA ?_; (try (conv => cbv)))
      refine br (vv = vv') (by rw [e_eql hA]) (fun _ => ?_) (fun q => absurd u3 q) <;> (try (conv => cbv)) <;> repeat (refine brk_ok hA ?_; (try (conv => cbv)))
      refine br (ee = ee') (by rw [e_eql hA]) (fun _ => ?_) (fun q => absurd u4 q) <;> (try (conv => cbv)) <;> repeat (refine brk_ok hA ?_; (try (conv => cbv)))
      have y8 := x4.trans z8
      have hot := ho1.img.ext (x2'.trans (x3'.trans (x4'.trans (z8.trans (ext_fresh hA X8)))))
      refine same_ok hA (low_fresh hA X8) (hg.ext (y8.trans (ext_fresh hA X8))) hot (by omega) (fun y q1 q2 => by have := ng2 y q1 q2; omega) (fun b h9 x9 hb => ⟨_, rfl, ?_⟩)
      have hbt : b = true := hb.2 rfl
      subst hbt
      ((try (conv => cbv)); repeat (refine brk_ok hA ?_; (try (conv => cbv))))
      obtain ⟨X9, hX9⟩ : ∃ v, v = lowered X8 h9 := ⟨_, rfl⟩
      have z9 : Ext h4 X9 := by rw [hX9]; exact ext_low hA (x4.lowOK hlow) z8 x9
      rw [← hX9]
      exact hQ X9 (x4.trans z9)

end Go.Proofs.Ytogofeppflindaa
