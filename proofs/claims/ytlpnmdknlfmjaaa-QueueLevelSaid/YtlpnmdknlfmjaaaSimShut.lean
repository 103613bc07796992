/-
  CLOSED CALLS: a function without arguments that the machine runs from an empty heap to true returns true at any heap, and leaves it as it is.
-/
import Derived.Test.YtlpnmdknlfmjaaaSimPrim
namespace Go.Sim
open Go.RowKit

/-- A function that returns true, ahead of a table. -/
def withTrue (g0 : FuncId) (F : Prims) : Prims := fun g args h =>
  bif Nat.beq g g0 && args.isEmpty then some (.bool true, h) else F g args h

theorem withTrue_spec {g0 : FuncId} {F : Prims} {g : FuncId} {args : List Value} {h h' : AHeap} {v : Value} (hc : withTrue g0 F g args h = some (v, h')) :
    (g = g0 ∧ args = [] ∧ v = .bool true ∧ h' = h) ∨ F g args h = some (v, h') := by
  unfold withTrue at hc
  cases hb : (Nat.beq g g0 && args.isEmpty) with
  | false => rw [hb] at hc; exact .inr hc
  | true =>
    rw [hb] at hc
    simp only [Bool.and_eq_true, List.isEmpty_iff] at hb
    simp only [cond_true, Option.some.injEq, Prod.mk.injEq] at hc
    exact .inl ⟨Nat.eq_of_beq_eq_true hb.1, hb.2, hc.1.symm, hc.2.symm⟩

/-- A world that has grown, all that was there being as it was. -/
theorem Good.grown {G : Nat → Option Loc} {h : AHeap} {w w' : World} (hR : HR ⟨G, fun _ => none⟩ (St0 h) w) (b : Below w.heap.size w w') : Good ⟨G, fun _ => none⟩ (St0 h) w ⟨G, fun _ => none⟩ (St0 h) w' := by
  have hlt : ∀ id L, G id = some L → L.b < w.heap.size := fun id L hL => by
    obtain ⟨cs, e, fr, h1, _⟩ := hR.gblk id L hL
    exact (Array.getElem?_eq_some_iff.1 h1).1
  exact
    { hr :=
        { gdom := hR.gdom
          gblk := fun id L hL => by
            obtain ⟨cs, e, fr, h1, h2⟩ := hR.gblk id L hL
            exact ⟨cs, e, fr, by rw [b.block _ (hlt id L hL)]; exact h1, h2⟩
          gcon := fun id L wr es cells hL hm => by
            obtain ⟨h0, cs, e, fr, h1, h2, h3⟩ := hR.gcon id L wr es cells hL hm
            exact ⟨h0, cs, e, fr, by rw [b.block _ (hlt id L hL)]; exact h1, h2, h3⟩
          ginj := hR.ginj
          ldom := (fun t L h => by cases h), lcon := (fun t L h => by cases h), linj := (fun t t' L L' h => by cases h), sep := (fun id t L L' _ h => by cases h) }
      mono := fun _ _ h => h
      next := Nat.le_refl _
      low := Nat.le_refl _
      size := b.size
      os := b.os
      tape := b.tape
      output := b.output
      fresh := fun id L h1 h2 => by rw [h2] at h1; cases h1
      lfresh := fun t L h1 => .inr ⟨t, L, h1, rfl⟩
      frame := fun k hk _ _ => b.block k hk }

theorem withTrue_ok {P : Program} {g0 : FuncId} {F : Prims} {call : CallT} (hc : CallOK P call) {fn : Func} (hf : P.funcs[g0]? = some fn) (hb : fn.body.isSome = true) (hname : (fn.name == "runtime.NumGoroutine") = false) (hr : saysTrue (call g0 [] emptyH) = true) (hF : CallOK P F) : CallOK P (withTrue g0 F) := by
  intro g args h v h' hc' G w cargs hR hA
  rcases withTrue_spec hc' with ⟨rfl, rfl, rfl, rfl⟩ | hc'
  · left
    rw [hA.nil_right]
    refine ⟨callFunc_enter hf hb hname, (closed_law hc hf hb hname hr w).mono ?_⟩
    rintro e w' ⟨rfl, bel⟩
    exact ⟨_, rfl, G, .flat _ rfl, .grown hR bel, .refl _ _⟩
  · exact hF g args h v h' hc' G w cargs hR hA

theorem withTrue_keep {g0 : FuncId} {F : Prims} (hF : CallKeep F) : CallKeep (withTrue g0 F) := by
  intro g args h v h' hc
  rcases withTrue_spec hc with ⟨_, _, _, rfl⟩ | hc
  · exact .refl _ _
  · exact hF g args h v h' hc

end Go.Sim
