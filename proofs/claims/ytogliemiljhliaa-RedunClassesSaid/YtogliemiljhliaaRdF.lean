import Derived.Test.YtogliemiljhliaaRdE
import Derived.Test.YtogliemiljhliaaSymD
set_option linter.unusedSimpArgs false
set_option linter.unusedVariables false
namespace Go.Proofs.Ytogliemiljhliaa
open Go.Sim
set_option linter.unusedVariables false
set_option maxRecDepth 100000
theorem cellsInt : Try.prog.cellsOf 3 = 1:=by kernel_rfl
theorem is_in {w : World} {h : AHeap} (hn : h.next = w.heap.size) (hm : ∀ b,b < w.heap.size → h.m.get b = absB w b) {H : Type} {enc : TypeId × Value → H} {base fuel b0 : Nat} {held : Bool} {r : Reach} {v : Value} {x : DataW H × List MemPlace}
  (hval : Value.okWide Try.prog w r b0 22 v) (hf : DataW.trod enc Try.prog w base (fun _ => true) held fuel 22 v.cells.toList = some x) :
  ∃ a n c l,v = .slice a n c ∧ repC w v = true ∧ n ≤ c ∧ c ≤ maxLen ∧ Is h a n l ∧ ∀ x ∈ l,(Lit.int .i64 x).wf = true:=by
 obtain ⟨a,n,c,d,rfl,hr,hrep,rfl,hts⟩:=value_slice Try.underlying22 hval hf
 obtain ⟨xs,k1,k2,k3,k4,k5⟩:=slice_in hn hm Try.underlying22 hts hrep iC cellsInt (by omega) (fun _ => rfl) (fun n => (Lit.int .i64 n).wf = true) (fun l hl => by
  cases d with
  | zero => exact hl.elim
  | succ d =>
   obtain ⟨y,rfl,hw⟩:=ts_int Try.underlying3 hl
   exact ⟨y,rfl,hw⟩)
 exact ⟨a,n,c,xs,rfl,hr,k2,k3,⟨k4,fun _ => rfl,by omega⟩,k5⟩
end Go.Proofs.Ytogliemiljhliaa
