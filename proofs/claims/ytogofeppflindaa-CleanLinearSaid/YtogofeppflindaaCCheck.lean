/-
  IMAGE, BEAM AND CLEANING (clean.Check; fringeref40.Check, Cleaning); ARE TWO LOGS THE SAME (fringeref40.SameLog).
-/
import Derived.Test.YtogofeppflindaaCRef2
namespace Go.Proofs.Ytogofeppflindaa
open Go.Sim
set_option linter.unusedVariables false
set_option maxRecDepth 100000

structure Cln where
  num : Int
  den : Int
  floor : Int
  steps : Int
def Cln.cells (c : Cln) : List Value := [.int .i64 c.num, .int .i64 c.den, .int .i64 c.floor, .int .i64 c.steps]

def clnP (c : Cln) : Prop := 1 ≤ c.num ∧ c.num ≤ c.den ∧ c.den ≤ 10 ∧ 1 ≤ c.floor ∧ c.floor ≤ 1000000 ∧ 0 ≤ c.steps ∧ c.steps ≤ 100

def ChkIs (img bm : Grid) (c : Cln) (e : Int) : Prop :=
  (¬ imgP img 1000000 ∧ e = 2) ∨ (imgP img 1000000 ∧ ¬ (beamP bm img.length ∧ clnP c) ∧ e = 8) ∨ (imgP img 1000000 ∧ beamP bm img.length ∧ clnP c ∧ e = 0)

theorem ChkIs.uniq {img bm : Grid} {c : Cln} {e e' : Int} (h : ChkIs img bm c e) (h' : ChkIs img bm c e') : e = e' := by
  rcases h with ⟨a, rfl⟩ | ⟨a, b, rfl⟩ | ⟨a, b, d, rfl⟩ <;> rcases h' with ⟨a', rfl⟩ | ⟨a', b', rfl⟩ | ⟨a', b', d', rfl⟩ <;>
    first | rfl | exact absurd a a' | exact absurd a' a | exact absurd ⟨b, d⟩ b' | exact absurd ⟨b', d'⟩ b
theorem ChkIs.ok {img bm : Grid} {c : Cln} (h : ChkIs img bm c 0) : imgP img 1000000 ∧ beamP bm img.length ∧ clnP c := by
  rcases h with ⟨a, q⟩ | ⟨a, b, q⟩ | ⟨a, b, d, q⟩
  · cases q
  · cases q
  · exact ⟨a, b, d⟩

variable {call : FuncId → List Value → AHeap → (Value → AHeap → Prop) → Prop}
  {head : FuncId → Nat → Nat → SS → (Exit → SS → Prop) → Prop}
  {arith : BinOp → IntKind → Int → Int → Int}
  {cmp : BinOp → Int → Int → Bool}
  {scmp : BinOp → ByteArray → ByteArray → Bool}
  {bnot : Bool → Bool}
  {bsame : Bool → Bool → Bool}
  {conv : IntKind → Int → Int}
  {neg : IntKind → Int → Int}
  {imax : Int → Int → Int}
  {imin : Int → Int → Int}
  {ofNat : Nat → Int}
  {slen : ByteArray → Int}
  {place : Nat → Int → Nat → Nat}
  {inR : Int → Nat → Prop}
  {nz : Int → Prop}
  {geZ : Int → Prop}
  {rd : AHeap → Nat → Nat → Nat → List Value → Prop}
  {wr : AHeap → Nat → Nat → List Value → AHeap → Prop}
  {push : AHeap → Nat → List Value → AHeap}
  {next : AHeap → Nat}
  {mkOK : Int → Int → Prop}
  {nat : Int → Nat}
  {zeros : List Value → Int → List Value}
  {sadd : ByteArray → ByteArray → (ByteArray → Prop) → Prop}
  {eqAgg : TypeId → Array Value → Array Value → (Bool → Prop) → Prop}
  {cut : Nat → Int → Prop}
  {slc : TypeId → Value → Option Value → Option Value → Option Value → (Option Addr → Nat → Nat → Prop) → Prop}
  {sslc : TypeId → ByteArray → Option Value → Option Value → (ByteArray → Prop) → Prop}
  {strAt : ByteArray → Int → (Int → Prop) → Prop}
  {part : TypeId → Array Value → Nat → Value → Prop}
  {app : List TypeId → List Value → AHeap → (Option Addr → Nat → Nat → AHeap → Prop) → Prop}
  {cpy : List TypeId → List Value → AHeap → (Int → AHeap → Prop) → Prop}
  {putAt : AHeap → Nat → Nat → List Value → AHeap}
  {fresh : AHeap → AHeap}
  {lowered : AHeap → AHeap → AHeap}
  {bump : AHeap → Nat → AHeap}
  {wrote : AHeap → AHeap → Bool}
  {addN : Nat → Nat → Nat}
  {lt : Nat → Nat → Prop}
  {ne : Nat → Nat → Prop}
  {fpAll : Bool → Bool → Bool → Nat → Nat → Prop}
  {brk : (Unit → Prop) → Prop}
  {yn : Nat → Nat}
  {rng : FuncId → Nat → SS → (Exit → SS → Prop) → Prop}
  {mget : TypeId → Value → Value → AHeap → Value → Bool → Prop}
  {mput : TypeId → Value → Value → Value → AHeap → AHeap → Prop}
  {mnew : AHeap → AHeap}
  {bytes : TypeId → TypeId → Option Addr → Nat → AHeap → ByteArray → Prop}
  {clr : List TypeId → List Value → AHeap → AHeap → Prop}
  (hA : AOK progU hint prims ⟨call, head, arith, cmp, scmp, bnot, bsame, conv, neg, imax, imin, ofNat, slen, place, inR, nz, geZ, rd, wr, push, next, mkOK, nat, zeros, sadd, eqAgg, cut, slc, sslc, strAt, part, app, cpy, putAt, fresh, lowered, bump, wrote, addN, lt, ne, fpAll, brk, yn, rng, mget, mput, mnew, bytes, clr⟩)
include hA

theorem chk_ok {h : AHeap} (hlow : h.low ≤ h.next) {a : Option Addr} {m k : Nat} {img : Grid} (hg : Img h a m img) {ab : Option Addr} {mb kb : Nat} {bm : Grid} (hb : Img h ab mb bm) {c : Cln} {Q : Value → AHeap → Prop}
    (hQ : ∀ e, ChkIs img bm c e → Q (.int .i64 e) h) : call 16 [.slice a m k, .slice ab mb kb, .agg c.cells.toArray] h Q := by
  obtain ⟨num, den, floor, steps⟩ := c
  have hgl := hg.len
  refine hA.bodyR Try.func16 r16_ok (show prims _ _ _ = none from rfl) hlow ?_; (try (conv => cbv)); repeat (refine brk_ok hA ?_; (try (conv => cbv)))
  refine isImage_ok hA hlow hg (by omega) (by omega) (fun r hr => ⟨_, rfl, ?_⟩)
  ((try (conv => cbv)); repeat (refine brk_ok hA ?_; (try (conv => cbv))))
  cases r with
  | false =>
    ((try (conv => cbv)); repeat (refine brk_ok hA ?_; (try (conv => cbv))))
    refine br (True) (by rw [e_bnot hA]; rfl) (fun _ => ?_) (fun q => absurd trivial q) <;> (try (conv => cbv)) <;> repeat (refine brk_ok hA ?_; (try (conv => cbv)))
    exact hQ _ (.inl ⟨(fun q => by have := hr.2 q; cases this), rfl⟩)
  | true =>
    have hi := hr.1 rfl
    have hi1 := hi.1
    have hi2 := hi.2.1
    ((try (conv => cbv)); repeat (refine brk_ok hA ?_; (try (conv => cbv))))
    refine br (False) (by rw [e_bnot hA]; rfl) (fun q => q.elim) (fun _ => ?_) <;> (try (conv => cbv)) <;> repeat (refine brk_ok hA ?_; (try (conv => cbv)))
    have hmo : ofNat m = (img.length : Int) := by rw [e_ofNat hA]; omega
    rw [hmo]
    obtain ⟨n, hn⟩ : ∃ n : Int, n = img.length := ⟨_, rfl⟩
    rw [← hn]
    rw [← hn] at hi1 hi2
    refine isBeam_ok hA hlow hb (n := n) (by omega) (by omega) (fun r2 hr2 => ⟨_, rfl, ?_⟩)
    rw [hn] at hr2
    ((try (conv => cbv)); repeat (refine brk_ok hA ?_; (try (conv => cbv))))
    cases r2 with
    | false =>
      ((try (conv => cbv)); repeat (refine brk_ok hA ?_; (try (conv => cbv))))
      refine br (True) (by rw [e_bnot hA]; rfl) (fun _ => ?_) (fun q => absurd trivial q) <;> (try (conv => cbv)) <;> repeat (refine brk_ok hA ?_; (try (conv => cbv)))
      exact hQ _ (.inr (.inl ⟨hi, (fun q => by have := hr2.2 q.1; cases this), rfl⟩))
    | true =>
      ((try (conv => cbv)); repeat (refine brk_ok hA ?_; (try (conv => cbv))))
      refine br (False) (by rw [e_bnot hA]; rfl) (fun q => q.elim) (fun _ => ?_) <;> (try (conv => cbv)) <;> repeat (refine brk_ok hA ?_; (try (conv => cbv)))
      have bad : ¬ clnP ⟨num, den, floor, steps⟩ → ChkIs img bm ⟨num, den, floor, steps⟩ 8 := fun q => .inr (.inl ⟨hi, fun r => q r.2, rfl⟩)
      unfold clnP at bad
      simp only [] at bad
      refine br (num < 1) (by rw [e_lss hA]) (fun c1 => ?_) (fun c1 => ?_) <;> (try (conv => cbv)) <;> repeat (refine brk_ok hA ?_; (try (conv => cbv)))
      · exact hQ _ (bad (fun q => by omega))
      refine br (den < num) (by rw [e_gtr hA]) (fun c2 => ?_) (fun c2 => ?_) <;> (try (conv => cbv)) <;> repeat (refine brk_ok hA ?_; (try (conv => cbv)))
      · exact hQ _ (bad (fun q => by omega))
      refine br (10 < den) (by rw [e_gtr hA]) (fun c3 => ?_) (fun c3 => ?_) <;> (try (conv => cbv)) <;> repeat (refine brk_ok hA ?_; (try (conv => cbv)))
      · exact hQ _ (bad (fun q => by omega))
      refine br (floor < 1) (by rw [e_lss hA]) (fun c4 => ?_) (fun c4 => ?_) <;> (try (conv => cbv)) <;> repeat (refine brk_ok hA ?_; (try (conv => cbv)))
      · exact hQ _ (bad (fun q => by omega))
      refine br (1000000 < floor) (by rw [e_gtr hA]) (fun c5 => ?_) (fun c5 => ?_) <;> (try (conv => cbv)) <;> repeat (refine brk_ok hA ?_; (try (conv => cbv)))
      · exact hQ _ (bad (fun q => by omega))
      refine br (steps < 0) (by rw [e_lss hA]) (fun c6 => ?_) (fun c6 => ?_) <;> (try (conv => cbv)) <;> repeat (refine brk_ok hA ?_; (try (conv => cbv)))
      · exact hQ _ (bad (fun q => by omega))
      refine br (100 < steps) (by rw [e_gtr hA]) (fun c7 => ?_) (fun c7 => ?_) <;> (try (conv => cbv)) <;> repeat (refine brk_ok hA ?_; (try (conv => cbv)))
      · exact hQ _ (bad (fun q => by omega))
      exact hQ _ (.inr (.inr ⟨hi, hr2.1 rfl, by unfold clnP; simp only []; omega, rfl⟩))

theorem rcln_ok {h : AHeap} (hlow : h.low ≤ h.next) {c : Cln} {Q : Value → AHeap → Prop}
    (hQ : ∀ r : Bool, (r = true ↔ clnP c) → Q (.bool r) h) : call 39 [.agg c.cells.toArray] h Q := by
  obtain ⟨num, den, floor, steps⟩ := c
  have bad : ∀ {q : Prop}, ¬ q → (clnP ⟨num, den, floor, steps⟩ → q) → (false = true ↔ clnP ⟨num, den, floor, steps⟩) := fun h1 h2 => no (fun q => h1 (h2 q))
  unfold clnP at bad
  simp only [] at bad
  unfold clnP at hQ
  simp only [] at hQ
  refine hA.bodyR Try.func39 r39_ok (show prims _ _ _ = none from rfl) hlow ?_; (try (conv => cbv)); repeat (refine brk_ok hA ?_; (try (conv => cbv)))
  refine br (1 ≤ num) (by rw [e_geq hA]) (fun c1 => ?_) (fun c1 => ?_) <;> (try (conv => cbv)) <;> repeat (refine brk_ok hA ?_; (try (conv => cbv)))
  rotate_left
  · exact hQ _ (bad c1 (fun q => by omega))
  refine br (num ≤ den) (by rw [e_leq hA]) (fun c2 => ?_) (fun c2 => ?_) <;> (try (conv => cbv)) <;> repeat (refine brk_ok hA ?_; (try (conv => cbv)))
  rotate_left
  · exact hQ _ (bad c2 (fun q => by omega))
  refine br (den ≤ 10) (by rw [e_leq hA]) (fun c3 => ?_) (fun c3 => ?_) <;> (try (conv => cbv)) <;> repeat (refine brk_ok hA ?_; (try (conv => cbv)))
  rotate_left
  · exact hQ _ (bad c3 (fun q => by omega))
  refine br (1 ≤ floor) (by rw [e_geq hA]) (fun c4 => ?_) (fun c4 => ?_) <;> (try (conv => cbv)) <;> repeat (refine brk_ok hA ?_; (try (conv => cbv)))
  rotate_left
  · exact hQ _ (bad c4 (fun q => by omega))
  refine br (floor ≤ 1000000) (by rw [e_leq hA]) (fun c5 => ?_) (fun c5 => ?_) <;> (try (conv => cbv)) <;> repeat (refine brk_ok hA ?_; (try (conv => cbv)))
  rotate_left
  · exact hQ _ (bad c5 (fun q => by omega))
  refine br (0 ≤ steps) (by rw [e_geq hA]) (fun c6 => ?_) (fun c6 => ?_) <;> (try (conv => cbv)) <;> repeat (refine brk_ok hA ?_; (try (conv => cbv)))
  rotate_left
  · exact hQ _ (bad c6 (fun q => by omega))
  exact hQ _ (by rw [e_leq hA]; simp; omega)

theorem rchk_ok {h : AHeap} (hlow : h.low ≤ h.next) {a : Option Addr} {m k : Nat} {img : Grid} (hg : Img h a m img) {ab : Option Addr} {mb kb : Nat} {bm : Grid} (hb : Img h ab mb bm) {c : Cln} {Q : Value → AHeap → Prop}
    (hQ : ∀ e, ChkIs img bm c e → Q (.int .i64 e) h) : call 17 [.slice a m k, .slice ab mb kb, .agg c.cells.toArray] h Q := by
  have hgl := hg.len
  have hbf : bnot false = true := by rw [e_bnot hA]; rfl
  have hbt : bnot true = false := by rw [e_bnot hA]; rfl
  refine hA.bodyR Try.func17 r17_ok (show prims _ _ _ = none from rfl) hlow ?_; (try (conv => cbv)); repeat (refine brk_ok hA ?_; (try (conv => cbv)))
  refine rimg_ok hA hlow hg (by omega) (by omega) (fun r hr => ⟨_, rfl, ?_⟩)
  ((try (conv => cbv)); repeat (refine brk_ok hA ?_; (try (conv => cbv))))
  cases r with
  | false =>
    ((try (conv => cbv)); repeat (refine brk_ok hA ?_; (try (conv => cbv))))
    refine br (True) (by rw [e_bnot hA]; rfl) (fun _ => ?_) (fun q => absurd trivial q) <;> (try (conv => cbv)) <;> repeat (refine brk_ok hA ?_; (try (conv => cbv)))
    exact hQ _ (.inl ⟨(fun q => by have := hr.2 q; cases this), rfl⟩)
  | true =>
    have hi := hr.1 rfl
    have hi1 := hi.1
    have hi2 := hi.2.1
    ((try (conv => cbv)); repeat (refine brk_ok hA ?_; (try (conv => cbv))))
    refine br (False) (by rw [e_bnot hA]; rfl) (fun q => q.elim) (fun _ => ?_) <;> (try (conv => cbv)) <;> repeat (refine brk_ok hA ?_; (try (conv => cbv)))
    have hmo : ofNat m = (img.length : Int) := by rw [e_ofNat hA]; omega
    rw [hmo]
    obtain ⟨n, hn⟩ : ∃ n : Int, n = img.length := ⟨_, rfl⟩
    rw [← hn]
    rw [← hn] at hi1 hi2
    refine rbeam_ok hA hlow hb (n := n) (by omega) (by omega) (fun r2 hr2 => ⟨_, rfl, ?_⟩)
    rw [hn] at hr2
    ((try (conv => cbv)); repeat (refine brk_ok hA ?_; (try (conv => cbv))))
    cases r2 with
    | false =>
      rw [hbf]
      ((try (conv => cbv)); repeat (refine brk_ok hA ?_; (try (conv => cbv))))
      exact hQ _ (.inr (.inl ⟨hi, (fun q => by have := hr2.2 q.1; cases this), rfl⟩))
    | true =>
      rw [hbt]
      ((try (conv => cbv)); repeat (refine brk_ok hA ?_; (try (conv => cbv))))
      refine rcln_ok hA hlow (fun r3 hr3 => ⟨_, rfl, ?_⟩)
      ((try (conv => cbv)); repeat (refine brk_ok hA ?_; (try (conv => cbv))))
      cases r3 with
      | false =>
        rw [hbf]
        ((try (conv => cbv)); repeat (refine brk_ok hA ?_; (try (conv => cbv))))
        exact hQ _ (.inr (.inl ⟨hi, (fun q => by have := hr3.2 q.2; cases this), rfl⟩))
      | true =>
        rw [hbt]
        ((try (conv => cbv)); repeat (refine brk_ok hA ?_; (try (conv => cbv))))
        exact hQ _ (.inr (.inr ⟨hi, hr2.1 rfl, hr3.1 rfl, rfl⟩))

end Go.Proofs.Ytogofeppflindaa
