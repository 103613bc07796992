/-
  origin.isName, fringeref44.Name: what they return.
-/
import Derived.Test.YtopppccddnplkaaSymFacts
namespace Go.Proofs.Ytopppccddnplkaa
open Go.Sim
set_option linter.unusedVariables false
set_option maxRecDepth 100000

def okc (c : Int) : Prop := c = 45 ∨ (97 ≤ c ∧ c ≤ 122) ∨ (48 ≤ c ∧ c ≤ 57)
def nameP (s : ByteArray) : Prop := 1 ≤ s.size ∧ s.size ≤ 40 ∧ 97 ≤ sat s 0 ∧ sat s 0 ≤ 122 ∧ ∀ i : Int, 0 ≤ i → i < s.size → okc (sat s i)

variable {call : FuncId → List Value → AHeap → (Value → AHeap → Prop) → Prop}
  {head : FuncId → Nat → Nat → SS → (Exit → SS → Prop) → Prop}
  {arith : BinOp → IntKind → Int → Int → Int}
  {cmp : BinOp → Int → Int → Bool}
  {scmp : BinOp → ByteArray → ByteArray → Bool}
  {bnot : Bool → Bool}
  {bsame : Bool → Bool → Bool}
  {conv : IntKind → Int → Int}
  {neg : IntKind → Int → Int}
  {imax : Int → Int → Int}
  {imin : Int → Int → Int}
  {ofNat : Nat → Int}
  {slen : ByteArray → Int}
  {place : Nat → Int → Nat → Nat}
  {inR : Int → Nat → Prop}
  {nz : Int → Prop}
  {geZ : Int → Prop}
  {rd : AHeap → Nat → Nat → Nat → List Value → Prop}
  {wr : AHeap → Nat → Nat → List Value → AHeap → Prop}
  {push : AHeap → Nat → List Value → AHeap}
  {next : AHeap → Nat}
  {mkOK : Int → Int → Prop}
  {nat : Int → Nat}
  {zeros : List Value → Int → List Value}
  {sadd : ByteArray → ByteArray → (ByteArray → Prop) → Prop}
  {eqAgg : TypeId → Array Value → Array Value → (Bool → Prop) → Prop}
  {cut : Nat → Int → Prop}
  {slc : TypeId → Value → Option Value → Option Value → Option Value → (Option Addr → Nat → Nat → Prop) → Prop}
  {sslc : TypeId → ByteArray → Option Value → Option Value → (ByteArray → Prop) → Prop}
  {strAt : ByteArray → Int → (Int → Prop) → Prop}
  {part : TypeId → Array Value → Nat → Value → Prop}
  {app : List TypeId → List Value → AHeap → (Option Addr → Nat → Nat → AHeap → Prop) → Prop}
  {cpy : List TypeId → List Value → AHeap → (Int → AHeap → Prop) → Prop}
  {putAt : AHeap → Nat → Nat → List Value → AHeap}
  {fresh : AHeap → AHeap}
  {lowered : AHeap → AHeap → AHeap}
  {bump : AHeap → Nat → AHeap}
  {wrote : AHeap → AHeap → Bool}
  {addN : Nat → Nat → Nat}
  {lt : Nat → Nat → Prop}
  {ne : Nat → Nat → Prop}
  {fpAll : Bool → Bool → Bool → Nat → Nat → Prop}
  {brk : (Unit → Prop) → Prop}
  {yn : Nat → Nat}
  {rng : FuncId → Nat → SS → (Exit → SS → Prop) → Prop}
  {mget : TypeId → Value → Value → AHeap → Value → Bool → Prop}
  {mput : TypeId → Value → Value → Value → AHeap → AHeap → Prop}
  {mnew : AHeap → AHeap}
  {bytes : TypeId → TypeId → Option Addr → Nat → AHeap → ByteArray → Prop}
  {clr : List TypeId → List Value → AHeap → AHeap → Prop}
  (hA : AOK progU hint prims ⟨call, head, arith, cmp, scmp, bnot, bsame, conv, neg, imax, imin, ofNat, slen, place, inR, nz, geZ, rd, wr, push, next, mkOK, nat, zeros, sadd, eqAgg, cut, slc, sslc, strAt, part, app, cpy, putAt, fresh, lowered, bump, wrote, addN, lt, ne, fpAll, brk, yn, rng, mget, mput, mnew, bytes, clr⟩)
include hA

theorem isName_loop {h : AHeap} {s : ByteArray} (hsz : s.size ≤ 1000000) {Q : Exit → SS → Prop}
    (h0 : (∀ i : Int, 0 ≤ i → i < s.size → okc (sat s i)) → Q (.exit 0) ⟨[], 0, [], h⟩) (h1 : ∀ e, ¬ (∀ i : Int, 0 ≤ i → i < s.size → okc (sat s i)) → Q .ret ⟨(2, .bool false) :: e, 0, [], h⟩) :
    ∀ (i : Int), 0 ≤ i → i ≤ s.size → (∀ j : Int, 0 ≤ j → j < i → okc (sat s j)) → head 47 4 0 ⟨[(0, .string s), (3, .int .i64 i)], 0, [], h⟩ Q := by
  refine countUp (fun i hi0 hin ih hj => ?_)
  refine hA.roundR Try.func47 r47_ok ?_; (try (conv => cbv)); repeat (refine brk_ok hA ?_; (try (conv => cbv)))
  refine br (i < s.size) (by rw [e_lss hA, e_slen hA]) (fun c => ?_) (fun c => ?_) <;> (try (conv => cbv)) <;> repeat (refine brk_ok hA ?_; (try (conv => cbv)))
  · refine strAt_ok hA hi0 c (fun x hx hx0 hx1 => ?_)
    have bad : ¬ okc x → ¬ (∀ i : Int, 0 ≤ i → i < s.size → okc (sat s i)) := fun hn hall => hn (by rw [hx]; exact hall i hi0 c)
    have go : okc x → ∀ k, k = i + 1 → head 47 4 0 ⟨[(0, .string s), (3, .int .i64 k)], 0, [], h⟩ Q := fun ho k hk => by
      rw [hk]
      refine ih c (fun j hj0 hj1 => ?_)
      by_cases e : j = i
      · rw [e, ← hx]; exact ho
      · exact hj j hj0 (by omega)
    have hk := add64 hA (a := i) (b := 1) (by omega) (by omega)
    ((try (conv => cbv)); repeat (refine brk_ok hA ?_; (try (conv => cbv))))
    refine br (x < 97) (e_lss hA _ _) (fun c1 => ?_) (fun c1 => ?_) <;> (try (conv => cbv)) <;> repeat (refine brk_ok hA ?_; (try (conv => cbv)))
    · refine br (x < 48) (e_lss hA _ _) (fun c2 => ?_) (fun c2 => ?_) <;> (try (conv => cbv)) <;> repeat (refine brk_ok hA ?_; (try (conv => cbv)))
      · refine br (x ≠ 45) (e_neq hA _ _) (fun c3 => ?_) (fun c3 => ?_) <;> (try (conv => cbv)) <;> repeat (refine brk_ok hA ?_; (try (conv => cbv)))
        · exact h1 _ (bad (by unfold okc; omega))
        · exact go (by unfold okc; omega) _ hk
      · refine br (57 < x) (e_gtr hA _ _) (fun c3 => ?_) (fun c3 => ?_) <;> (try (conv => cbv)) <;> repeat (refine brk_ok hA ?_; (try (conv => cbv)))
        · refine br (x ≠ 45) (e_neq hA _ _) (fun c4 => ?_) (fun c4 => ?_) <;> (try (conv => cbv)) <;> repeat (refine brk_ok hA ?_; (try (conv => cbv)))
          · exact h1 _ (bad (by unfold okc; omega))
          · exact go (by unfold okc; omega) _ hk
        · exact go (by unfold okc; omega) _ hk
    · refine br (122 < x) (e_gtr hA _ _) (fun c2 => ?_) (fun c2 => ?_) <;> (try (conv => cbv)) <;> repeat (refine brk_ok hA ?_; (try (conv => cbv)))
      · refine br (x < 48) (e_lss hA _ _) (fun c3 => ?_) (fun c3 => ?_) <;> (try (conv => cbv)) <;> repeat (refine brk_ok hA ?_; (try (conv => cbv)))
        · refine br (x ≠ 45) (e_neq hA _ _) (fun c4 => ?_) (fun c4 => ?_) <;> (try (conv => cbv)) <;> repeat (refine brk_ok hA ?_; (try (conv => cbv)))
          · exact h1 _ (bad (by unfold okc; omega))
          · exact go (by unfold okc; omega) _ hk
        · refine br (57 < x) (e_gtr hA _ _) (fun c4 => ?_) (fun c4 => ?_) <;> (try (conv => cbv)) <;> repeat (refine brk_ok hA ?_; (try (conv => cbv)))
          · refine br (x ≠ 45) (e_neq hA _ _) (fun c5 => ?_) (fun c5 => ?_) <;> (try (conv => cbv)) <;> repeat (refine brk_ok hA ?_; (try (conv => cbv)))
            · exact h1 _ (bad (by unfold okc; omega))
            · exact go (by unfold okc; omega) _ hk
          · exact go (by unfold okc; omega) _ hk
      · exact go (by unfold okc; omega) _ hk
  · exact h0 (fun j hj0 hj1 => hj j hj0 (by omega))

theorem isName_ok {h : AHeap} (hlow : h.low ≤ h.next) {s : ByteArray} (hsz : s.size ≤ 1000000) {Q : Value → AHeap → Prop} (hQ : ∀ r, (r = true ↔ nameP s) → Q (.bool r) h) : call 47 [.string s] h Q := by
  have hf : ¬ nameP s → Q (.bool false) h := fun hn => hQ false (by simp [hn])
  refine hA.bodyR Try.func47 r47_ok (show prims _ _ _ = none from rfl) hlow ?_; (try (conv => cbv)); repeat (refine brk_ok hA ?_; (try (conv => cbv)))
  refine br ((s.size : Int) < 1) (by rw [e_lss hA, e_slen hA]) (fun c1 => ?_) (fun c1 => ?_) <;> (try (conv => cbv)) <;> repeat (refine brk_ok hA ?_; (try (conv => cbv)))
  · exact hf (fun hn => by have := hn.1; omega)
  refine br (40 < (s.size : Int)) (by rw [e_gtr hA, e_slen hA]) (fun c2 => ?_) (fun c2 => ?_) <;> (try (conv => cbv)) <;> repeat (refine brk_ok hA ?_; (try (conv => cbv)))
  · exact hf (fun hn => by have := hn.2.1; omega)
  refine strAt_ok hA (by omega) (by omega) (fun x hx hx0 hx1 => ?_)
  ((try (conv => cbv)); repeat (refine brk_ok hA ?_; (try (conv => cbv))))
  refine br (x < 97) (e_lss hA _ _) (fun c3 => ?_) (fun c3 => ?_) <;> (try (conv => cbv)) <;> repeat (refine brk_ok hA ?_; (try (conv => cbv)))
  · exact hf (fun hn => by have := hn.2.2.1; omega)
  refine strAt_ok hA (by omega) (by omega) (fun y hy hy0 hy1 => ?_)
  ((try (conv => cbv)); repeat (refine brk_ok hA ?_; (try (conv => cbv))))
  refine br (122 < y) (e_gtr hA _ _) (fun c4 => ?_) (fun c4 => ?_) <;> (try (conv => cbv)) <;> repeat (refine brk_ok hA ?_; (try (conv => cbv)))
  · exact hf (fun hn => by have := hn.2.2.2.1; omega)
  refine isName_loop hA hsz (fun hall => ?_) (fun e hall => ?_) 0 (by omega) (by omega) (fun j hj0 hj1 => by omega)
  · ((try (conv => cbv)); repeat (refine brk_ok hA ?_; (try (conv => cbv))))
    exact hQ true (by simp only [true_iff]; exact ⟨by omega, by omega, by omega, by omega, hall⟩)
  · ((try (conv => cbv)); repeat (refine brk_ok hA ?_; (try (conv => cbv))))
    exact hf (fun hn => hall hn.2.2.2.2)

theorem rName_loop {h : AHeap} {s : ByteArray} (hsz : s.size ≤ 1000000) {Q : Exit → SS → Prop}
    (h0 : (∀ i : Int, 0 ≤ i → i < s.size → okc (sat s i)) → Q (.exit 0) ⟨[], 0, [], h⟩) (h1 : ∀ e, ¬ (∀ i : Int, 0 ≤ i → i < s.size → okc (sat s i)) → Q .ret ⟨(2, .bool false) :: e, 0, [], h⟩) :
    ∀ (i : Int), 0 ≤ i → i ≤ s.size → (∀ j : Int, 0 ≤ j → j < i → okc (sat s j)) → head 50 4 0 ⟨[(0, .string s), (3, .int .i64 i)], 0, [], h⟩ Q := by
  refine countUp (fun i hi0 hin ih hj => ?_)
  refine hA.roundR Try.func50 r50_ok ?_; (try (conv => cbv)); repeat (refine brk_ok hA ?_; (try (conv => cbv)))
  refine br (i < s.size) (by rw [e_lss hA, e_slen hA]) (fun c => ?_) (fun c => ?_) <;> (try (conv => cbv)) <;> repeat (refine brk_ok hA ?_; (try (conv => cbv)))
  · refine strAt_ok hA hi0 c (fun x hx hx0 hx1 => ?_)
    have bad : ¬ okc x → ¬ (∀ i : Int, 0 ≤ i → i < s.size → okc (sat s i)) := fun hn hall => hn (by rw [hx]; exact hall i hi0 c)
    have go : okc x → ∀ k, k = i + 1 → head 50 4 0 ⟨[(0, .string s), (3, .int .i64 k)], 0, [], h⟩ Q := fun ho k hk => by
      rw [hk]
      refine ih c (fun j hj0 hj1 => ?_)
      by_cases e : j = i
      · rw [e, ← hx]; exact ho
      · exact hj j hj0 (by omega)
    have hk := add64 hA (a := i) (b := 1) (by omega) (by omega)
    ((try (conv => cbv)); repeat (refine brk_ok hA ?_; (try (conv => cbv))))
    refine br (x ≠ 45) (e_neq hA _ _) (fun c1 => ?_) (fun c1 => ?_) <;> (try (conv => cbv)) <;> repeat (refine brk_ok hA ?_; (try (conv => cbv)))
    · refine strAt_ok hA hi0 c (fun x1 hx1 _ _ => ?_)
      rw [← hx] at hx1; subst hx1
      ((try (conv => cbv)); repeat (refine brk_ok hA ?_; (try (conv => cbv))))
      refine br (x1 < 97) (e_lss hA _ _) (fun c2 => ?_) (fun c2 => ?_) <;> (try (conv => cbv)) <;> repeat (refine brk_ok hA ?_; (try (conv => cbv)))
      · refine strAt_ok hA hi0 c (fun x2 hx2 _ _ => ?_)
        rw [← hx] at hx2; subst hx2
        ((try (conv => cbv)); repeat (refine brk_ok hA ?_; (try (conv => cbv))))
        refine br (x2 < 48) (e_lss hA _ _) (fun c3 => ?_) (fun c3 => ?_) <;> (try (conv => cbv)) <;> repeat (refine brk_ok hA ?_; (try (conv => cbv)))
        · exact h1 _ (bad (by unfold okc; omega))
        · refine strAt_ok hA hi0 c (fun x3 hx3 _ _ => ?_)
          rw [← hx] at hx3; subst hx3
          ((try (conv => cbv)); repeat (refine brk_ok hA ?_; (try (conv => cbv))))
          refine br (57 < x3) (e_gtr hA _ _) (fun c4 => ?_) (fun c4 => ?_) <;> (try (conv => cbv)) <;> repeat (refine brk_ok hA ?_; (try (conv => cbv)))
          · exact h1 _ (bad (by unfold okc; omega))
          · exact go (by unfold okc; omega) _ hk
      · refine strAt_ok hA hi0 c (fun x2 hx2 _ _ => ?_)
        rw [← hx] at hx2; subst hx2
        ((try (conv => cbv)); repeat (refine brk_ok hA ?_; (try (conv => cbv))))
        refine br (122 < x2) (e_gtr hA _ _) (fun c3 => ?_) (fun c3 => ?_) <;> (try (conv => cbv)) <;> repeat (refine brk_ok hA ?_; (try (conv => cbv)))
        · refine strAt_ok hA hi0 c (fun x3 hx3 _ _ => ?_)
          rw [← hx] at hx3; subst hx3
          ((try (conv => cbv)); repeat (refine brk_ok hA ?_; (try (conv => cbv))))
          refine br (x3 < 48) (e_lss hA _ _) (fun c4 => ?_) (fun c4 => ?_) <;> (try (conv => cbv)) <;> repeat (refine brk_ok hA ?_; (try (conv => cbv)))
          · exact h1 _ (bad (by unfold okc; omega))
          · refine strAt_ok hA hi0 c (fun x4 hx4 _ _ => ?_)
            rw [← hx] at hx4; subst hx4
            ((try (conv => cbv)); repeat (refine brk_ok hA ?_; (try (conv => cbv))))
            refine br (57 < x4) (e_gtr hA _ _) (fun c5 => ?_) (fun c5 => ?_) <;> (try (conv => cbv)) <;> repeat (refine brk_ok hA ?_; (try (conv => cbv)))
            · exact h1 _ (bad (by unfold okc; omega))
            · exact go (by unfold okc; omega) _ hk
        · exact go (by unfold okc; omega) _ hk
    · exact go (by unfold okc; omega) _ hk
  · exact h0 (fun j hj0 hj1 => hj j hj0 (by omega))

theorem rName_ok {h : AHeap} (hlow : h.low ≤ h.next) {s : ByteArray} (hsz : s.size ≤ 1000000) {Q : Value → AHeap → Prop} (hQ : ∀ r, (r = true ↔ nameP s) → Q (.bool r) h) : call 50 [.string s] h Q := by
  have hf : ¬ nameP s → Q (.bool false) h := fun hn => hQ false (by simp [hn])
  refine hA.bodyR Try.func50 r50_ok (show prims _ _ _ = none from rfl) hlow ?_; (try (conv => cbv)); repeat (refine brk_ok hA ?_; (try (conv => cbv)))
  refine br ((s.size : Int) < 1) (by rw [e_lss hA, e_slen hA]) (fun c1 => ?_) (fun c1 => ?_) <;> (try (conv => cbv)) <;> repeat (refine brk_ok hA ?_; (try (conv => cbv)))
  · exact hf (fun hn => by have := hn.1; omega)
  refine br (40 < (s.size : Int)) (by rw [e_gtr hA, e_slen hA]) (fun c2 => ?_) (fun c2 => ?_) <;> (try (conv => cbv)) <;> repeat (refine brk_ok hA ?_; (try (conv => cbv)))
  · exact hf (fun hn => by have := hn.2.1; omega)
  refine strAt_ok hA (by omega) (by omega) (fun x hx hx0 hx1 => ?_)
  ((try (conv => cbv)); repeat (refine brk_ok hA ?_; (try (conv => cbv))))
  refine br (x < 97) (e_lss hA _ _) (fun c3 => ?_) (fun c3 => ?_) <;> (try (conv => cbv)) <;> repeat (refine brk_ok hA ?_; (try (conv => cbv)))
  · exact hf (fun hn => by have := hn.2.2.1; omega)
  refine strAt_ok hA (by omega) (by omega) (fun y hy hy0 hy1 => ?_)
  ((try (conv => cbv)); repeat (refine brk_ok hA ?_; (try (conv => cbv))))
  refine br (122 < y) (e_gtr hA _ _) (fun c4 => ?_) (fun c4 => ?_) <;> (try (conv => cbv)) <;> repeat (refine brk_ok hA ?_; (try (conv => cbv)))
  · exact hf (fun hn => by have := hn.2.2.2.1; omega)
  refine rName_loop hA hsz (fun hall => ?_) (fun e hall => ?_) 0 (by omega) (by omega) (fun j hj0 hj1 => by omega)
  · ((try (conv => cbv)); repeat (refine brk_ok hA ?_; (try (conv => cbv))))
    exact hQ true (by simp only [true_iff]; exact ⟨by omega, by omega, by omega, by omega, hall⟩)
  · ((try (conv => cbv)); repeat (refine brk_ok hA ?_; (try (conv => cbv))))
    exact hf (fun hn => hall hn.2.2.2.2)

end Go.Proofs.Ytopppccddnplkaa
