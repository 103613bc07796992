/-
  fringelaw13.SampleTells in the abstract machine: true.
-/
import Derived.Test.YtcdoknkgbnaefaaRSign
namespace Go.Proofs.Ytcdoknkgbnaefaa
open Go.Sim
set_option linter.unusedVariables false
set_option maxRecDepth 100000

theorem guard41 : Try.prog.eqGuardType Try.prog.depth 41 = false := by kernel_rfl

theorem eq5 (a b c d e : Int) : eqA Try.prog 30 41 (.agg #[.int .i64 a, .int .i64 b, .int .i64 c, .int .i64 d, .int .i64 e]) (.agg #[.int .i64 a, .int .i64 b, .int .i64 c, .int .i64 d, .int .i64 e]) = some true := by
  have h3 : Try.prog.underlying 3 = some (.int .i64) := by kernel_rfl
  have h41 : Try.prog.underlying 41 = some (.array 5 3) := by kernel_rfl
  have hs : sizeT Try.prog 3 = some 1 := by kernel_rfl
  have hp : ∀ i, partA Try.prog 3 #[.int .i64 a, .int .i64 b, .int .i64 c, .int .i64 d, .int .i64 e] i = [Value.int .i64 a, .int .i64 b, .int .i64 c, .int .i64 d, .int .i64 e][i]? := by
    intro i
    unfold partA
    rw [show isAggB Try.prog 3 = some false by kernel_rfl]
  have he : ∀ (n : Nat) (x : Int), eqA Try.prog (n + 1) 3 (.int .i64 x) (.int .i64 x) = some true := by
    intro n x
    unfold eqA
    rw [h3]
    simp
  rw [show (30 : Nat) = 29 + 1 by rfl]
  unfold eqA
  rw [h41]
  simp only [hs]
  rw [show (29 : Nat) = 28 + 1 by rfl]
  simp [List.range, List.range.loop, hp, he]

variable {call : FuncId → List Value → AHeap → (Value → AHeap → Prop) → Prop}
  {head : FuncId → Nat → Nat → SS → (Exit → SS → Prop) → Prop}
  {arith : BinOp → IntKind → Int → Int → Int}
  {cmp : BinOp → Int → Int → Bool}
  {scmp : BinOp → ByteArray → ByteArray → Bool}
  {bnot : Bool → Bool}
  {bsame : Bool → Bool → Bool}
  {conv : IntKind → Int → Int}
  {neg : IntKind → Int → Int}
  {imax : Int → Int → Int}
  {imin : Int → Int → Int}
  {ofNat : Nat → Int}
  {slen : ByteArray → Int}
  {place : Nat → Int → Nat → Nat}
  {inR : Int → Nat → Prop}
  {nz : Int → Prop}
  {geZ : Int → Prop}
  {rd : AHeap → Nat → Nat → Nat → List Value → Prop}
  {wr : AHeap → Nat → Nat → List Value → AHeap → Prop}
  {push : AHeap → Nat → List Value → AHeap}
  {next : AHeap → Nat}
  {mkOK : Int → Int → Prop}
  {nat : Int → Nat}
  {zeros : List Value → Int → List Value}
  {sadd : ByteArray → ByteArray → (ByteArray → Prop) → Prop}
  {eqAgg : TypeId → Array Value → Array Value → (Bool → Prop) → Prop}
  {cut : Nat → Int → Prop}
  {slc : TypeId → Value → Option Value → Option Value → Option Value → (Option Addr → Nat → Nat → Prop) → Prop}
  {sslc : TypeId → ByteArray → Option Value → Option Value → (ByteArray → Prop) → Prop}
  {strAt : ByteArray → Int → (Int → Prop) → Prop}
  {part : TypeId → Array Value → Nat → Value → Prop}
  {app : List TypeId → List Value → AHeap → (Option Addr → Nat → Nat → AHeap → Prop) → Prop}
  {cpy : List TypeId → List Value → AHeap → (Int → AHeap → Prop) → Prop}
  {putAt : AHeap → Nat → Nat → List Value → AHeap}
  {fresh : AHeap → AHeap}
  {lowered : AHeap → AHeap → AHeap}
  {bump : AHeap → Nat → AHeap}
  {wrote : AHeap → AHeap → Bool}
  {addN : Nat → Nat → Nat}
  {lt : Nat → Nat → Prop}
  {ne : Nat → Nat → Prop}
  {fpAll : Bool → Bool → Bool → Nat → Nat → Prop}
  (hA : AOK progU hint prims ⟨call, head, arith, cmp, scmp, bnot, bsame, conv, neg, imax, imin, ofNat, slen, place, inR, nz, geZ, rd, wr, push, next, mkOK, nat, zeros, sadd, eqAgg, cut, slc, sslc, strAt, part, app, cpy, putAt, fresh, lowered, bump, wrote, addN, lt, ne, fpAll⟩)
include hA

theorem tells_ok {h : AHeap} (hlow : h.low ≤ h.next) {a : Option Addr} {n c : Nat} {l : List Int} (hs : Ints h .i64 a n l) {Q : Value → AHeap → Prop} (hQ : ∀ h', Ext h h' → Q (.bool true) h') : call 4 [.slice a n c] h Q := by
  have hl := hs.len
  refine hA.body live Try.func4 (prims_none _ _ _) hlow ?_; (conv => cbv)
  refine long_ok hA hlow (fun r hr => ⟨_, rfl, ?_⟩)
  (conv => cbv)
  refine br (300 < (n : Int)) hr (fun c => ?_) (fun c => ?_) <;> (conv => cbv)
  · exact hQ _ (.refl _)
  rw [e_app hA, e_push hA, e_next hA]
  obtain ⟨b, c1, h1, ha, ho, hb, hE⟩ := append_new T22 T22.und (c2 := _) (Own.push h 1 []) (by simp [AHeap.push]) (hs.cells.ext (.push h 1 [])) (ints_ok _ _) (by omega)
  obtain ⟨he1, hb1⟩ := hE h (.push _ _ _) (Nat.le_refl _)
  have hown : Ints h1 .i64 (some ⟨b, 0, none⟩) n l := ho.ints hb hl.symm
  refine ⟨_, _, _, _, ha, ?_⟩
  (conv => cbv)
  refine bits_ok hA (he1.lowOK hlow) (by omega) hown (fun r1 e1 hce hr1 => ⟨_, _, rfl, ?_⟩)
  (conv => cbv)
  refine rbits_ok hA (he1.lowOK hlow) (by omega) (hs.ext he1) (fun r2 e2 hce2 hr2 => ⟨_, _, rfl, ?_⟩)
  (conv => cbv)
  refine counts_ok hA (he1.lowOK hlow) (by omega) hown (fun e3 c0 c1 c2 c3 c4 h2 hce3 he2 hcs => ⟨_, _, _, _, _, _, rfl, ?_⟩)
  (conv => cbv)
  refine rcounts_ok hA (he2.lowOK (he1.lowOK hlow)) (by omega) (hs.ext (he1.trans he2)) (fun e4 d0 d1 d2 d3 d4 h3 hce4 he3 hds => ⟨_, _, _, _, _, _, rfl, ?_⟩)
  (conv => cbv)
  have he13 := he2.trans he3
  refine sign_ok hA (he13.lowOK (he1.lowOK hlow)) (by omega) (hown.ext he13) (fun e5 a5 n5 c5 h5 hce5 he5 hi5 => ⟨_, _, _, _, rfl, ?_⟩)
  (conv => cbv)
  have he15 := he13.trans he5
  refine rsign_ok hA (he15.lowOK (he1.lowOK hlow)) (by omega) (hs.ext (he1.trans he15)) (fun e6 a6 n6 c6 h6 hce6 he6 hi6 => ⟨_, _, _, _, rfl, ?_⟩)
  (conv => cbv)
  have he16 := he15.trans he6
  have hl16 := he16.lowOK (he1.lowOK hlow)
  refine check_ok hA hl16 (by omega) (hown.ext he16) (fun e7 hce7 => ⟨_, rfl, ?_⟩)
  (conv => cbv)
  refine rcheck_ok hA hl16 (by omega) (hs.ext (he1.trans he16)) (fun e8 hce8 => ⟨_, rfl, ?_⟩)
  (conv => cbv)
  have q1 : e7 = e8 := by rw [hce7, hce8]
  have q2 : r1 = r2 := by rw [hr1, hr2, hce, hce2]
  have q3 : e1 = e2 := by rw [hce, hce2]
  have q4 : [c0, c1, c2, c3, c4] = [d0, d1, d2, d3, d4] := by rw [hcs, hds, hce3, hce4]
  simp only [List.cons.injEq, and_true] at q4
  obtain ⟨rfl, rfl, rfl, rfl, rfl⟩ := q4
  have q5 : e3 = e4 := by rw [hce3, hce4]
  have q6 : e5 = e6 := by rw [hce5, hce6]
  subst q1 q2 q3 q5 q6
  refine br (e7 = e7) (e_eql hA _ _) (fun c => ?_) (fun c => absurd rfl c) <;> (conv => cbv)
  refine br (r1 = r1) (e_eql hA _ _) (fun c => ?_) (fun c => absurd rfl c) <;> (conv => cbv)
  refine br (e1 = e1) (e_eql hA _ _) (fun c => ?_) (fun c => absurd rfl c) <;> (conv => cbv)
  rw [e_eqAgg hA]
  refine ⟨guard41, true, eq5 _ _ _ _ _, ?_⟩
  (conv => cbv)
  refine br (e3 = e3) (e_eql hA _ _) (fun c => ?_) (fun c => absurd rfl c) <;> (conv => cbv)
  have hn5 : n5 ≤ 1000000 := by
    rw [← hi5.len]; split
    · simp; omega
    · simp
  refine same_ok hA hl16 hn5 (hi5.ext he6) hi6 (fun r hr h7 he7 => ⟨_, rfl, ?_⟩)
  have hr : r = true := by rw [hr]; simp
  subst hr
  (conv => cbv)
  refine br (e5 = e5) (e_eql hA _ _) (fun c => ?_) (fun c => absurd rfl c) <;> (conv => cbv)
  refine same_ok hA (he7.lowOK hl16) (by omega) (hown.ext (he16.trans he7)) (hs.ext (he1.trans (he16.trans he7))) (fun r hr h8 he8 => ⟨_, rfl, ?_⟩)
  have hr : r = true := by rw [hr]; simp
  subst hr
  (conv => cbv)
  exact hQ _ (he1.trans (he16.trans (he7.trans he8)))

end Go.Proofs.Ytcdoknkgbnaefaa
