import Derived.Test.YtkbgkjlgnmlghaaProg
import Derived.Test.YtkbgkjlgnmlghaaSimD
import Derived.KernelRfl
namespace Go.Proofs.Ytkbgkjlgnmlghaa
open Go Go.Sim
set_option maxRecDepth 100000
set_option maxHeartbeats 4000000
namespace cellsNamesCut
noncomputable section
def firstK : Nat → Code → Code
  | 0, _ => .skip
  | k + 1, .seq a b => .seq a (firstK k b)
  | _ + 1, _ => .skip
def dropK : Nat → Code → Code
  | 0, c => c
  | k + 1, .seq _ b => dropK k b
  | _ + 1, c => c
def spine : Nat → Code → Bool
  | 0, _ => true
  | k + 1, .seq _ b => spine k b
  | _ + 1, _ => false
theorem split {P : Program} {H : Hint} {F : Prims} {f : FuncId} {nt : Nat} (n : Nat) : ∀ (k : Nat) (c : Code) (s s' : St), spine k c = true → (execA P H F (n + 1 + k)).run f nt (firstK k c) s = some (.normal, s') →
    (execA P H F (n + 1 + k)).run f nt c s = (execA P H F (n + 1)).run f nt (dropK k c) s' := by
  intro k
  induction k with
  | zero =>
    intro c s s' _ h
    have h' : some (Exit.normal, s) = some (Exit.normal, s') := h
    obtain rfl : s = s' := by injection h' with h'; injection h'
    rfl
  | succ k ih =>
    intro c s s' hsp h
    cases c with
    | seq a b =>
      have h' : (match (execA P H F (n + 1 + k)).run f nt a s with | some (.normal, s1) => (execA P H F (n + 1 + k)).run f nt (firstK k b) s1 | x => x) = some (.normal, s') := h
      show (match (execA P H F (n + 1 + k)).run f nt a s with | some (.normal, s1) => (execA P H F (n + 1 + k)).run f nt b s1 | x => x) = (execA P H F (n + 1)).run f nt (dropK k b) s'
      cases hr : (execA P H F (n + 1 + k)).run f nt a s with
      | none => rw [hr] at h'; cases h'
      | some r =>
        obtain ⟨e, s1⟩ := r
        rw [hr] at h'
        cases e with
        | normal => exact ih b s1 s' hsp h'
        | ret => cases h'
        | exit id => cases h'
        | _ => cases h'
    | _ => cases hsp
def fin (P : Program) (fn : Func) : Option (Exit × St) → Option (Value × AHeap)
  | some (.normal, s) => endA P fn s
  | some (.ret, s) => endA P fn s
  | _ => none
theorem call_eq {P : Program} {H : Hint} {F : Prims} {n : Nat} {g : FuncId} {h : AHeap} {fn : Func} {c : Code} (hy : Nat.ble yieldBase g = false) (hF : F g [] h = none) (hf : P.funcs[g]? = some fn) (hb : fn.body = some c) :
    (execA P H F (n + 1)).call g [] h = fin P fn ((execA P H F n).run g fn.ntmps c ⟨.leaf, 0, .leaf, h⟩) := by
  show callS P F (execA P H F n) g [] h = _
  unfold callS
  rw [hy, hF, hf]
  simp only [cond_false, hb]
  unfold fin
  rfl
abbrev ex (n : Nat) : Rec := execA Try.prog noHint (withFn 78 sub64F (withFn 76 add64F noPrims)) n
abbrev I (n : Nat) : Value := .int .i64 (.ofNat n)
abbrev U (n : Nat) : Value := .int .u64 (.ofNat n)
abbrev P (b : Nat) : Value := .pointer (some ⟨b, 0, none⟩)
abbrev B (es : Nat) (cs : List Value) : Blk := .live true es cs
abbrev tt : Option Value := some (.bool true)
abbrev ff : Option Value := some (.bool false)
abbrev L {α : Type} : Tri α := .leaf
abbrev Z {α : Type} : Tri α := .node .leaf none .leaf
abbrev N {α : Type} (a b : Tri α) : Tri α := .node a none b
abbrev X {α : Type} (v : α) : Tri α := .node .leaf (some v) .leaf
abbrev Y {α : Type} (a : Tri α) (v : α) (b : Tri α) : Tri α := .node a (some v) b
def c0 : Code := Try.f7.body.getD .skip
def st0 : St := ⟨.leaf, 0, .leaf, emptyH⟩
def c1 : Code := dropK 9 c0
def c2 : Code := dropK 3 c1
def c3 : Code := dropK 2 c2
def c4 : Code := dropK 10 c3
def c5 : Code := dropK 8 c4
end
end cellsNamesCut
end Go.Proofs.Ytkbgkjlgnmlghaa
