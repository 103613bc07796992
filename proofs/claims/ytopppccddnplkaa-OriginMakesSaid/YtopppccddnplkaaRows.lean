/-
  No cell of these rows narrows 'for every input' (looked for: loops, veiled, ifaces, maps, wideKeys, modest, calm, conditions, laid).
  DERIVED. THE GIVEN ROWS OF THIS SEAT. 8 by the template 'for every input the law returns true; each argument reads behind the call as it read before'; 0 by the template 'total and deterministic' (their statements: YtopppccddnplkaaTotals.lean).
  GIVEN WITH THE SEED: the statements are not yours to turn. If you find one false, say at which input.
  Laid BY PROGRAM, IN A SANDBOX (cutbox-rows.mjs): the forced cells as the released guide's own fill.sh prints them over the translation 235e20f56edf0323… (all of the seat's roots in one cut). By AI agents, Wed Nov 11 2026. No macro, syntax, notation, axiom, sorry.
-/
import Derived.Test.YtopppccddnplkaaChecked
import GoSem.Claim
import GoSem.ClaimJoined
import GoSem.ClaimMapViews
import Derived.JoinedTies
import Derived.KernelRfl
namespace Go.Proofs.Ytopppccddnplkaa
/- THE CELL 'sum', in the pinned program and in every row, IS THE sha256 OF THE DUMP (.gsa) THAT YtopppccddnplkaaProg.lean LOADS. Nothing in Lean hashes anything: it is a label: what it is worth is what the hold of that sum in a sandbox is worth. -/
noncomputable def Try.pinned : Pinned := { name := "ytopppccddnplkaa", sum := "235e20f56edf032371ceb1b571f53551bec75ecce1335eb97a7ba855cba26623", checked := Try.checked }
namespace Rows
def none {H : Type} : Left H := { results := [], args := [] }

/-- 'fringelaw44.OriginMakes': WHATEVER THE INPUT: true; the input reads as it did. -/
def originMakesSpec : ChangeSpec := { name := "originMakes", fn := fun _ => fun
  | [d1, d2, d3] => { results := [.lit (.bool true)], args := [d1, d2, d3] }
  | _ => none }
def originMakesRow : OpenClaim := { program := "ytopppccddnplkaa", sum := "235e20f56edf032371ceb1b571f53551bec75ecce1335eb97a7ba855cba26623", func := "fringe/fringelaw44.OriginMakes", spec := "originMakes", unfollowed := true, recurses := true, apart := false }
def OriginMakesSaid : Prop := originMakesRow.holds Try.pinned (OpenSpec.ofChange originMakesSpec)

/-- ITS FALSE NEIGHBOUR: 'it returns false'. Refute it at one input. -/
def originMakesWrong : ChangeSpec := { name := "originMakes", fn := fun _ => fun
  | [d1, d2, d3] => { results := [.lit (.bool false)], args := [d1, d2, d3] }
  | _ => none }
def OriginMakesWrongFalsely : Prop := originMakesRow.holds Try.pinned (OpenSpec.ofChange originMakesWrong)

/-- 'fringelaw44.OriginNeeds': WHATEVER THE INPUT: true; the input reads as it did. -/
def originNeedsSpec : ChangeSpec := { name := "originNeeds", fn := fun _ => fun
  | [d1, d2, d3] => { results := [.lit (.bool true)], args := [d1, d2, d3] }
  | _ => none }
def originNeedsRow : OpenClaim := { program := "ytopppccddnplkaa", sum := "235e20f56edf032371ceb1b571f53551bec75ecce1335eb97a7ba855cba26623", func := "fringe/fringelaw44.OriginNeeds", spec := "originNeeds", unfollowed := true, recurses := true, apart := false }
def OriginNeedsSaid : Prop := originNeedsRow.holds Try.pinned (OpenSpec.ofChange originNeedsSpec)

/-- ITS FALSE NEIGHBOUR: 'it returns false'. Refute it at one input. -/
def originNeedsWrong : ChangeSpec := { name := "originNeeds", fn := fun _ => fun
  | [d1, d2, d3] => { results := [.lit (.bool false)], args := [d1, d2, d3] }
  | _ => none }
def OriginNeedsWrongFalsely : Prop := originNeedsRow.holds Try.pinned (OpenSpec.ofChange originNeedsWrong)

/-- 'fringelaw44.OriginChange': WHATEVER THE INPUT: true; the input reads as it did. -/
def originChangeSpec : ChangeSpec := { name := "originChange", fn := fun _ => fun
  | [d1, d2, d3] => { results := [.lit (.bool true)], args := [d1, d2, d3] }
  | _ => none }
def originChangeRow : OpenClaim := { program := "ytopppccddnplkaa", sum := "235e20f56edf032371ceb1b571f53551bec75ecce1335eb97a7ba855cba26623", func := "fringe/fringelaw44.OriginChange", spec := "originChange", unfollowed := true, recurses := true, apart := false }
def OriginChangeSaid : Prop := originChangeRow.holds Try.pinned (OpenSpec.ofChange originChangeSpec)

/-- ITS FALSE NEIGHBOUR: 'it returns false'. Refute it at one input. -/
def originChangeWrong : ChangeSpec := { name := "originChange", fn := fun _ => fun
  | [d1, d2, d3] => { results := [.lit (.bool false)], args := [d1, d2, d3] }
  | _ => none }
def OriginChangeWrongFalsely : Prop := originChangeRow.holds Try.pinned (OpenSpec.ofChange originChangeWrong)

/-- 'fringelaw44.OriginNeeded': WHATEVER THE INPUT: true; the input reads as it did. -/
def originNeededSpec : ChangeSpec := { name := "originNeeded", fn := fun _ => fun
  | [d] => { results := [.lit (.bool true)], args := [d] }
  | _ => none }
def originNeededRow : OpenClaim := { program := "ytopppccddnplkaa", sum := "235e20f56edf032371ceb1b571f53551bec75ecce1335eb97a7ba855cba26623", func := "fringe/fringelaw44.OriginNeeded", spec := "originNeeded", unfollowed := true, recurses := true, apart := false }
def OriginNeededSaid : Prop := originNeededRow.holds Try.pinned (OpenSpec.ofChange originNeededSpec)

/-- ITS FALSE NEIGHBOUR: 'it returns false'. Refute it at one input. -/
def originNeededWrong : ChangeSpec := { name := "originNeeded", fn := fun _ => fun
  | [d] => { results := [.lit (.bool false)], args := [d] }
  | _ => none }
def OriginNeededWrongFalsely : Prop := originNeededRow.holds Try.pinned (OpenSpec.ofChange originNeededWrong)

/-- 'fringelaw44.OriginRemade': WHATEVER THE INPUT: true; the input reads as it did. -/
def originRemadeSpec : ChangeSpec := { name := "originRemade", fn := fun _ => fun
  | [d1, d2, d3] => { results := [.lit (.bool true)], args := [d1, d2, d3] }
  | _ => none }
def originRemadeRow : OpenClaim := { program := "ytopppccddnplkaa", sum := "235e20f56edf032371ceb1b571f53551bec75ecce1335eb97a7ba855cba26623", func := "fringe/fringelaw44.OriginRemade", spec := "originRemade", unfollowed := true, recurses := true, apart := false }
def OriginRemadeSaid : Prop := originRemadeRow.holds Try.pinned (OpenSpec.ofChange originRemadeSpec)

/-- ITS FALSE NEIGHBOUR: 'it returns false'. Refute it at one input. -/
def originRemadeWrong : ChangeSpec := { name := "originRemade", fn := fun _ => fun
  | [d1, d2, d3] => { results := [.lit (.bool false)], args := [d1, d2, d3] }
  | _ => none }
def OriginRemadeWrongFalsely : Prop := originRemadeRow.holds Try.pinned (OpenSpec.ofChange originRemadeWrong)

/-- 'fringelaw44.OriginLeft': WHATEVER THE INPUT: true; the input reads as it did. -/
def originLeftSpec : ChangeSpec := { name := "originLeft", fn := fun _ => fun
  | [d1, d2] => { results := [.lit (.bool true)], args := [d1, d2] }
  | _ => none }
def originLeftRow : OpenClaim := { program := "ytopppccddnplkaa", sum := "235e20f56edf032371ceb1b571f53551bec75ecce1335eb97a7ba855cba26623", func := "fringe/fringelaw44.OriginLeft", spec := "originLeft", unfollowed := true, recurses := true, apart := false }
def OriginLeftSaid : Prop := originLeftRow.holds Try.pinned (OpenSpec.ofChange originLeftSpec)

/-- ITS FALSE NEIGHBOUR: 'it returns false'. Refute it at one input. -/
def originLeftWrong : ChangeSpec := { name := "originLeft", fn := fun _ => fun
  | [d1, d2] => { results := [.lit (.bool false)], args := [d1, d2] }
  | _ => none }
def OriginLeftWrongFalsely : Prop := originLeftRow.holds Try.pinned (OpenSpec.ofChange originLeftWrong)

/-- 'fringelaw44.OriginNoted': WHATEVER THE INPUT: true; the input reads as it did. -/
def originNotedSpec : ChangeSpec := { name := "originNoted", fn := fun _ => fun
  | [d] => { results := [.lit (.bool true)], args := [d] }
  | _ => none }
def originNotedRow : OpenClaim := { program := "ytopppccddnplkaa", sum := "235e20f56edf032371ceb1b571f53551bec75ecce1335eb97a7ba855cba26623", func := "fringe/fringelaw44.OriginNoted", spec := "originNoted", unfollowed := true, recurses := true, apart := false }
def OriginNotedSaid : Prop := originNotedRow.holds Try.pinned (OpenSpec.ofChange originNotedSpec)

/-- ITS FALSE NEIGHBOUR: 'it returns false'. Refute it at one input. -/
def originNotedWrong : ChangeSpec := { name := "originNoted", fn := fun _ => fun
  | [d] => { results := [.lit (.bool false)], args := [d] }
  | _ => none }
def OriginNotedWrongFalsely : Prop := originNotedRow.holds Try.pinned (OpenSpec.ofChange originNotedWrong)

/-- 'fringelaw44.OriginNames': WHATEVER THE INPUT: true; the input reads as it did. -/
def originNamesSpec : ChangeSpec := { name := "originNames", fn := fun _ => fun
  | [] => { results := [.lit (.bool true)], args := [] }
  | _ => none }
def originNamesRow : OpenClaim := { program := "ytopppccddnplkaa", sum := "235e20f56edf032371ceb1b571f53551bec75ecce1335eb97a7ba855cba26623", func := "fringe/fringelaw44.OriginNames", spec := "originNames", unfollowed := true, recurses := true, apart := false }
def OriginNamesSaid : Prop := originNamesRow.holds Try.pinned (OpenSpec.ofChange originNamesSpec)

/-- ITS FALSE NEIGHBOUR: 'it returns false'. Refute it at one input. -/
def originNamesWrong : ChangeSpec := { name := "originNames", fn := fun _ => fun
  | [] => { results := [.lit (.bool false)], args := [] }
  | _ => none }
def OriginNamesWrongFalsely : Prop := originNamesRow.holds Try.pinned (OpenSpec.ofChange originNamesWrong)

/- THE SECOND FORM. 'bulk': how many values and letters a reading holds, each counted each time it is reached (what is shared counts as often as it is met; a slice's spare places count too). A statement '..UptoSaid' is the law's where the arguments, and the package variables that the reading takes, are together of bulk at most 1048576: NARROWER than '..Said'. Prove '..Said' where nothing that the law and all that it calls make is longer than what came in: it says more and counts as full. Else prove '..UptoSaid'. A law counts once. -/
mutual
def uptoBulk {H : Type} : DataW H → Nat
  | .lit (.string bytes) => bytes.length + 1
  | .lit _ => 1
  | .nil => 1
  | .ptr d => uptoBulk d + 1
  | .slice elems spare => uptoBulkAll elems + uptoBulkAll spare + 1
  | .agg parts => uptoBulkAll parts + 1
  | .iface _ d => uptoBulk d + 1
  | .map entries => uptoBulkEntries entries + 1
  | .held _ => 1
def uptoBulkAll {H : Type} : List (DataW H) → Nat
  | [] => 0
  | d :: r => uptoBulk d + uptoBulkAll r
def uptoBulkEntries {H : Type} : List (Lit × DataW H) → Nat
  | [] => 0
  | x :: r => uptoBulkEntry x + uptoBulkEntries r
def uptoBulkEntry {H : Type} : Lit × DataW H → Nat
  | (.string bytes, d) => bytes.length + uptoBulk d + 1
  | (_, d) => uptoBulk d + 1
 end
def uptoSmall : (H : Type) → List (DataW H) → Bool := fun _ ds => decide (uptoBulkAll ds ≤ 1048576)
def OpenSpec.upto (s : _root_.Go.ChangeSpec) : _root_.Go.OpenSpec := { _root_.Go.OpenSpec.ofChange s with cond := some uptoSmall }

/-- 'fringelaw44.OriginMakes', WHERE WHAT IT READS IS OF BULK AT MOST 1048576: true; the input reads as it did. -/
def originMakesUptoRow : OpenClaim := { program := "ytopppccddnplkaa", sum := "235e20f56edf032371ceb1b571f53551bec75ecce1335eb97a7ba855cba26623", func := "fringe/fringelaw44.OriginMakes", spec := "originMakes", unfollowed := true, recurses := true, apart := false, narrowed := true }
def OriginMakesUptoSaid : Prop := originMakesUptoRow.holds Try.pinned (OpenSpec.upto originMakesSpec)

/-- 'fringelaw44.OriginNeeds', WHERE WHAT IT READS IS OF BULK AT MOST 1048576: true; the input reads as it did. -/
def originNeedsUptoRow : OpenClaim := { program := "ytopppccddnplkaa", sum := "235e20f56edf032371ceb1b571f53551bec75ecce1335eb97a7ba855cba26623", func := "fringe/fringelaw44.OriginNeeds", spec := "originNeeds", unfollowed := true, recurses := true, apart := false, narrowed := true }
def OriginNeedsUptoSaid : Prop := originNeedsUptoRow.holds Try.pinned (OpenSpec.upto originNeedsSpec)

/-- 'fringelaw44.OriginChange', WHERE WHAT IT READS IS OF BULK AT MOST 1048576: true; the input reads as it did. -/
def originChangeUptoRow : OpenClaim := { program := "ytopppccddnplkaa", sum := "235e20f56edf032371ceb1b571f53551bec75ecce1335eb97a7ba855cba26623", func := "fringe/fringelaw44.OriginChange", spec := "originChange", unfollowed := true, recurses := true, apart := false, narrowed := true }
def OriginChangeUptoSaid : Prop := originChangeUptoRow.holds Try.pinned (OpenSpec.upto originChangeSpec)

/-- 'fringelaw44.OriginNeeded', WHERE WHAT IT READS IS OF BULK AT MOST 1048576: true; the input reads as it did. -/
def originNeededUptoRow : OpenClaim := { program := "ytopppccddnplkaa", sum := "235e20f56edf032371ceb1b571f53551bec75ecce1335eb97a7ba855cba26623", func := "fringe/fringelaw44.OriginNeeded", spec := "originNeeded", unfollowed := true, recurses := true, apart := false, narrowed := true }
def OriginNeededUptoSaid : Prop := originNeededUptoRow.holds Try.pinned (OpenSpec.upto originNeededSpec)

/-- 'fringelaw44.OriginRemade', WHERE WHAT IT READS IS OF BULK AT MOST 1048576: true; the input reads as it did. -/
def originRemadeUptoRow : OpenClaim := { program := "ytopppccddnplkaa", sum := "235e20f56edf032371ceb1b571f53551bec75ecce1335eb97a7ba855cba26623", func := "fringe/fringelaw44.OriginRemade", spec := "originRemade", unfollowed := true, recurses := true, apart := false, narrowed := true }
def OriginRemadeUptoSaid : Prop := originRemadeUptoRow.holds Try.pinned (OpenSpec.upto originRemadeSpec)

/-- 'fringelaw44.OriginLeft', WHERE WHAT IT READS IS OF BULK AT MOST 1048576: true; the input reads as it did. -/
def originLeftUptoRow : OpenClaim := { program := "ytopppccddnplkaa", sum := "235e20f56edf032371ceb1b571f53551bec75ecce1335eb97a7ba855cba26623", func := "fringe/fringelaw44.OriginLeft", spec := "originLeft", unfollowed := true, recurses := true, apart := false, narrowed := true }
def OriginLeftUptoSaid : Prop := originLeftUptoRow.holds Try.pinned (OpenSpec.upto originLeftSpec)

/-- 'fringelaw44.OriginNoted', WHERE WHAT IT READS IS OF BULK AT MOST 1048576: true; the input reads as it did. -/
def originNotedUptoRow : OpenClaim := { program := "ytopppccddnplkaa", sum := "235e20f56edf032371ceb1b571f53551bec75ecce1335eb97a7ba855cba26623", func := "fringe/fringelaw44.OriginNoted", spec := "originNoted", unfollowed := true, recurses := true, apart := false, narrowed := true }
def OriginNotedUptoSaid : Prop := originNotedUptoRow.holds Try.pinned (OpenSpec.upto originNotedSpec)

/-- 'fringelaw44.OriginNames', WHERE WHAT IT READS IS OF BULK AT MOST 1048576: true; the input reads as it did. -/
def originNamesUptoRow : OpenClaim := { program := "ytopppccddnplkaa", sum := "235e20f56edf032371ceb1b571f53551bec75ecce1335eb97a7ba855cba26623", func := "fringe/fringelaw44.OriginNames", spec := "originNames", unfollowed := true, recurses := true, apart := false, narrowed := true }
def OriginNamesUptoSaid : Prop := originNamesUptoRow.holds Try.pinned (OpenSpec.upto originNamesSpec)

end Rows
end Go.Proofs.Ytopppccddnplkaa
