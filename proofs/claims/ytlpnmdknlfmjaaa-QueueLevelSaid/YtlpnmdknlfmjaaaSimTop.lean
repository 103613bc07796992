/-
  FROM THE ABSTRACT MACHINE TO THE FORM IN WHICH A WALK IS HANDED ON.
-/
import Derived.Test.YtlpnmdknlfmjaaaSimRun
import Derived.Below
namespace Go.Sim
open Go.RowKit

def emptyH : AHeap := { next := 0, low := 0, m := .leaf }

def saysTrue : Option (Value × AHeap) → Bool
  | some (.bool true, _) => true
  | _ => false

/-- A call that comes to true. -/
theorem saysTrue_spec {r : Option (Value × AHeap)} (h : saysTrue r = true) : ∃ h', r = some (.bool true, h') := by
  unfold saysTrue at h
  split at h
  · exact ⟨_, rfl⟩
  · cases h

theorem Does.calls {P : Program} {g : FuncId} {fn : Func} {args : Array Value} {w : World} {R : Value → World → Prop} (h : Does P g args w R) (hf : P.funcs[g]? = some fn) (hb : fn.body.isSome = true) (hname : (fn.name == "runtime.NumGoroutine") = false) :
    Calls P g args w (fun e w' => ∃ c, e = .returned c ∧ R c w') := by
  rcases h with ⟨_, h⟩ | ⟨c, w', h, _⟩
  · exact h
  · rw [callFunc_enter hf hb hname] at h; simp at h

/-- A law without arguments. -/
theorem closed_law {P : Program} {call : CallT} (hc : CallOK P call) {g : FuncId} {fn : Func} (hf : P.funcs[g]? = some fn) (hb : fn.body.isSome = true) (hname : (fn.name == "runtime.NumGoroutine") = false) (h : saysTrue (call g [] emptyH) = true) (w : World) :
    Calls P g #[] w fun e w' => e = .returned (.bool true) ∧ Below w.heap.size w w' := by
  obtain ⟨h', he⟩ := saysTrue_spec h
  have hR : HR ⟨fun _ => none, fun _ => none⟩ (St0 emptyH) w :=
    { gdom := (fun id L h => by cases h), gblk := (fun id L h => by cases h), gcon := (fun id L wr es cells h => by cases h), ginj := (fun id id' L L' wr es c wr' es' c' h => by cases h), ldom := (fun t L h => by cases h), lcon := (fun t L h => by cases h), linj := (fun t t' L L' h => by cases h), sep := (fun id t L L' h => by cases h) }
  have hd := hc g [] emptyH _ h' he (fun _ => none) w [] hR (VGs.nil _)
  refine (hd.calls hf hb hname).mono ?_
  rintro e w' ⟨c, rfl, G', hv, hG, _⟩
  rw [hv.bool]
  refine ⟨rfl, hG.os, hG.tape, hG.output, hG.size, fun k hk => hG.frame k hk (fun id L h => by cases h) (fun t L h => by cases h)⟩

end Go.Sim
