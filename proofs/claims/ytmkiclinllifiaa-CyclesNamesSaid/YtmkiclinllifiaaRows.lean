/-
  No cell of these rows narrows 'for every input' (looked for: loops, veiled, ifaces, maps, wideKeys, modest, calm, conditions, laid).
  DERIVED. THE GIVEN ROWS OF THIS SEAT. 7 by the template 'for every input the law returns true; each argument reads behind the call as it read before'; 0 by the template 'total and deterministic' (their statements: YtmkiclinllifiaaTotals.lean).
  GIVEN WITH THE SEED: the statements are not yours to turn. If you find one false, say at which input.
  Laid BY PROGRAM, IN A SANDBOX (cutbox-rows.mjs): the forced cells as the released guide's own fill.sh prints them over the translation aa1c9bc618761457… (all of the seat's roots in one cut). By AI agents, Wed Nov 11 2026. No macro, syntax, notation, axiom, sorry.
-/
import Derived.Test.YtmkiclinllifiaaChecked
import GoSem.Claim
import GoSem.ClaimJoined
import GoSem.ClaimMapViews
import Derived.JoinedTies
import Derived.KernelRfl
namespace Go.Proofs.Ytmkiclinllifiaa
/- THE CELL 'sum', in the pinned program and in every row, IS THE sha256 OF THE DUMP (.gsa) THAT YtmkiclinllifiaaProg.lean LOADS. Nothing in Lean hashes anything: it is a label: what it is worth is what the hold of that sum in a sandbox is worth. -/
noncomputable def Try.pinned : Pinned := { name := "ytmkiclinllifiaa", sum := "aa1c9bc618761457494ad09330d230167fe6e57edd0b11ceaaf80ce920c7c933", checked := Try.checked }
namespace Rows
def none {H : Type} : Left H := { results := [], args := [] }

/-- 'fringelaw28.CyclesTrees': WHATEVER THE INPUT: true; the input reads as it did. -/
def cyclesTreesSpec : ChangeSpec := { name := "cyclesTrees", fn := fun _ => fun
  | [d1, d2, d3] => { results := [.lit (.bool true)], args := [d1, d2, d3] }
  | _ => none }
def cyclesTreesRow : OpenClaim := { program := "ytmkiclinllifiaa", sum := "aa1c9bc618761457494ad09330d230167fe6e57edd0b11ceaaf80ce920c7c933", func := "fringe/fringelaw28.CyclesTrees", spec := "cyclesTrees", unfollowed := true, recurses := true, plainKeys := false, apart := false }
def CyclesTreesSaid : Prop := cyclesTreesRow.holds Try.pinned (OpenSpec.ofChange cyclesTreesSpec)

/-- ITS FALSE NEIGHBOUR: 'it returns false'. Refute it at one input. -/
def cyclesTreesWrong : ChangeSpec := { name := "cyclesTrees", fn := fun _ => fun
  | [d1, d2, d3] => { results := [.lit (.bool false)], args := [d1, d2, d3] }
  | _ => none }
def CyclesTreesWrongFalsely : Prop := cyclesTreesRow.holds Try.pinned (OpenSpec.ofChange cyclesTreesWrong)

/-- 'fringelaw28.CyclesChains': WHATEVER THE INPUT: true; the input reads as it did. -/
def cyclesChainsSpec : ChangeSpec := { name := "cyclesChains", fn := fun _ => fun
  | [d1, d2] => { results := [.lit (.bool true)], args := [d1, d2] }
  | _ => none }
def cyclesChainsRow : OpenClaim := { program := "ytmkiclinllifiaa", sum := "aa1c9bc618761457494ad09330d230167fe6e57edd0b11ceaaf80ce920c7c933", func := "fringe/fringelaw28.CyclesChains", spec := "cyclesChains", unfollowed := true, recurses := true, plainKeys := false, apart := false }
def CyclesChainsSaid : Prop := cyclesChainsRow.holds Try.pinned (OpenSpec.ofChange cyclesChainsSpec)

/-- ITS FALSE NEIGHBOUR: 'it returns false'. Refute it at one input. -/
def cyclesChainsWrong : ChangeSpec := { name := "cyclesChains", fn := fun _ => fun
  | [d1, d2] => { results := [.lit (.bool false)], args := [d1, d2] }
  | _ => none }
def CyclesChainsWrongFalsely : Prop := cyclesChainsRow.holds Try.pinned (OpenSpec.ofChange cyclesChainsWrong)

/-- 'fringelaw28.CyclesBasis': WHATEVER THE INPUT: true; the input reads as it did. -/
def cyclesBasisSpec : ChangeSpec := { name := "cyclesBasis", fn := fun _ => fun
  | [d] => { results := [.lit (.bool true)], args := [d] }
  | _ => none }
def cyclesBasisRow : OpenClaim := { program := "ytmkiclinllifiaa", sum := "aa1c9bc618761457494ad09330d230167fe6e57edd0b11ceaaf80ce920c7c933", func := "fringe/fringelaw28.CyclesBasis", spec := "cyclesBasis", unfollowed := true, recurses := true, plainKeys := false, apart := false }
def CyclesBasisSaid : Prop := cyclesBasisRow.holds Try.pinned (OpenSpec.ofChange cyclesBasisSpec)

/-- ITS FALSE NEIGHBOUR: 'it returns false'. Refute it at one input. -/
def cyclesBasisWrong : ChangeSpec := { name := "cyclesBasis", fn := fun _ => fun
  | [d] => { results := [.lit (.bool false)], args := [d] }
  | _ => none }
def CyclesBasisWrongFalsely : Prop := cyclesBasisRow.holds Try.pinned (OpenSpec.ofChange cyclesBasisWrong)

/-- 'fringelaw28.CyclesCoefs': WHATEVER THE INPUT: true; the input reads as it did. -/
def cyclesCoefsSpec : ChangeSpec := { name := "cyclesCoefs", fn := fun _ => fun
  | [d1, d2] => { results := [.lit (.bool true)], args := [d1, d2] }
  | _ => none }
def cyclesCoefsRow : OpenClaim := { program := "ytmkiclinllifiaa", sum := "aa1c9bc618761457494ad09330d230167fe6e57edd0b11ceaaf80ce920c7c933", func := "fringe/fringelaw28.CyclesCoefs", spec := "cyclesCoefs", unfollowed := true, recurses := true, plainKeys := false, apart := false }
def CyclesCoefsSaid : Prop := cyclesCoefsRow.holds Try.pinned (OpenSpec.ofChange cyclesCoefsSpec)

/-- ITS FALSE NEIGHBOUR: 'it returns false'. Refute it at one input. -/
def cyclesCoefsWrong : ChangeSpec := { name := "cyclesCoefs", fn := fun _ => fun
  | [d1, d2] => { results := [.lit (.bool false)], args := [d1, d2] }
  | _ => none }
def CyclesCoefsWrongFalsely : Prop := cyclesCoefsRow.holds Try.pinned (OpenSpec.ofChange cyclesCoefsWrong)

/-- 'fringelaw28.CyclesWays': WHATEVER THE INPUT: true; the input reads as it did. -/
def cyclesWaysSpec : ChangeSpec := { name := "cyclesWays", fn := fun _ => fun
  | [d1, d2, d3] => { results := [.lit (.bool true)], args := [d1, d2, d3] }
  | _ => none }
def cyclesWaysRow : OpenClaim := { program := "ytmkiclinllifiaa", sum := "aa1c9bc618761457494ad09330d230167fe6e57edd0b11ceaaf80ce920c7c933", func := "fringe/fringelaw28.CyclesWays", spec := "cyclesWays", unfollowed := true, recurses := true, plainKeys := false, apart := false }
def CyclesWaysSaid : Prop := cyclesWaysRow.holds Try.pinned (OpenSpec.ofChange cyclesWaysSpec)

/-- ITS FALSE NEIGHBOUR: 'it returns false'. Refute it at one input. -/
def cyclesWaysWrong : ChangeSpec := { name := "cyclesWays", fn := fun _ => fun
  | [d1, d2, d3] => { results := [.lit (.bool false)], args := [d1, d2, d3] }
  | _ => none }
def CyclesWaysWrongFalsely : Prop := cyclesWaysRow.holds Try.pinned (OpenSpec.ofChange cyclesWaysWrong)

/-- 'fringelaw28.CyclesProduct': WHATEVER THE INPUT: true; the input reads as it did. -/
def cyclesProductSpec : ChangeSpec := { name := "cyclesProduct", fn := fun _ => fun
  | [d1, d2] => { results := [.lit (.bool true)], args := [d1, d2] }
  | _ => none }
def cyclesProductRow : OpenClaim := { program := "ytmkiclinllifiaa", sum := "aa1c9bc618761457494ad09330d230167fe6e57edd0b11ceaaf80ce920c7c933", func := "fringe/fringelaw28.CyclesProduct", spec := "cyclesProduct", unfollowed := true, recurses := true, plainKeys := false, apart := false }
def CyclesProductSaid : Prop := cyclesProductRow.holds Try.pinned (OpenSpec.ofChange cyclesProductSpec)

/-- ITS FALSE NEIGHBOUR: 'it returns false'. Refute it at one input. -/
def cyclesProductWrong : ChangeSpec := { name := "cyclesProduct", fn := fun _ => fun
  | [d1, d2] => { results := [.lit (.bool false)], args := [d1, d2] }
  | _ => none }
def CyclesProductWrongFalsely : Prop := cyclesProductRow.holds Try.pinned (OpenSpec.ofChange cyclesProductWrong)

/-- 'fringelaw28.CyclesNames': WHATEVER THE INPUT: true; the input reads as it did. -/
def cyclesNamesSpec : ChangeSpec := { name := "cyclesNames", fn := fun _ => fun
  | [] => { results := [.lit (.bool true)], args := [] }
  | _ => none }
def cyclesNamesRow : OpenClaim := { program := "ytmkiclinllifiaa", sum := "aa1c9bc618761457494ad09330d230167fe6e57edd0b11ceaaf80ce920c7c933", func := "fringe/fringelaw28.CyclesNames", spec := "cyclesNames", unfollowed := true, recurses := true, plainKeys := false, apart := false }
def CyclesNamesSaid : Prop := cyclesNamesRow.holds Try.pinned (OpenSpec.ofChange cyclesNamesSpec)

/-- ITS FALSE NEIGHBOUR: 'it returns false'. Refute it at one input. -/
def cyclesNamesWrong : ChangeSpec := { name := "cyclesNames", fn := fun _ => fun
  | [] => { results := [.lit (.bool false)], args := [] }
  | _ => none }
def CyclesNamesWrongFalsely : Prop := cyclesNamesRow.holds Try.pinned (OpenSpec.ofChange cyclesNamesWrong)

/- THE SECOND FORM. 'bulk': how many values and letters a reading holds, each counted each time it is reached (what is shared counts as often as it is met; a slice's spare places count too). A statement '..UptoSaid' is the law's where the arguments, and the package variables that the reading takes, are together of bulk at most 1048576: NARROWER than '..Said'. Prove '..Said' where nothing that the law and all that it calls make is longer than what came in: it says more and counts as full. Else prove '..UptoSaid'. A law counts once. -/
mutual
def uptoBulk {H : Type} : DataW H → Nat
  | .lit (.string bytes) => bytes.length + 1
  | .lit _ => 1
  | .nil => 1
  | .ptr d => uptoBulk d + 1
  | .slice elems spare => uptoBulkAll elems + uptoBulkAll spare + 1
  | .agg parts => uptoBulkAll parts + 1
  | .iface _ d => uptoBulk d + 1
  | .map entries => uptoBulkEntries entries + 1
  | .held _ => 1
def uptoBulkAll {H : Type} : List (DataW H) → Nat
  | [] => 0
  | d :: r => uptoBulk d + uptoBulkAll r
def uptoBulkEntries {H : Type} : List (Lit × DataW H) → Nat
  | [] => 0
  | x :: r => uptoBulkEntry x + uptoBulkEntries r
def uptoBulkEntry {H : Type} : Lit × DataW H → Nat
  | (.string bytes, d) => bytes.length + uptoBulk d + 1
  | (_, d) => uptoBulk d + 1
 end
def uptoSmall : (H : Type) → List (DataW H) → Bool := fun _ ds => decide (uptoBulkAll ds ≤ 1048576)
def OpenSpec.upto (s : _root_.Go.ChangeSpec) : _root_.Go.OpenSpec := { _root_.Go.OpenSpec.ofChange s with cond := some uptoSmall }

/-- 'fringelaw28.CyclesTrees', WHERE WHAT IT READS IS OF BULK AT MOST 1048576: true; the input reads as it did. -/
def cyclesTreesUptoRow : OpenClaim := { program := "ytmkiclinllifiaa", sum := "aa1c9bc618761457494ad09330d230167fe6e57edd0b11ceaaf80ce920c7c933", func := "fringe/fringelaw28.CyclesTrees", spec := "cyclesTrees", unfollowed := true, recurses := true, plainKeys := false, apart := false, narrowed := true }
def CyclesTreesUptoSaid : Prop := cyclesTreesUptoRow.holds Try.pinned (OpenSpec.upto cyclesTreesSpec)

/-- 'fringelaw28.CyclesChains', WHERE WHAT IT READS IS OF BULK AT MOST 1048576: true; the input reads as it did. -/
def cyclesChainsUptoRow : OpenClaim := { program := "ytmkiclinllifiaa", sum := "aa1c9bc618761457494ad09330d230167fe6e57edd0b11ceaaf80ce920c7c933", func := "fringe/fringelaw28.CyclesChains", spec := "cyclesChains", unfollowed := true, recurses := true, plainKeys := false, apart := false, narrowed := true }
def CyclesChainsUptoSaid : Prop := cyclesChainsUptoRow.holds Try.pinned (OpenSpec.upto cyclesChainsSpec)

/-- 'fringelaw28.CyclesBasis', WHERE WHAT IT READS IS OF BULK AT MOST 1048576: true; the input reads as it did. -/
def cyclesBasisUptoRow : OpenClaim := { program := "ytmkiclinllifiaa", sum := "aa1c9bc618761457494ad09330d230167fe6e57edd0b11ceaaf80ce920c7c933", func := "fringe/fringelaw28.CyclesBasis", spec := "cyclesBasis", unfollowed := true, recurses := true, plainKeys := false, apart := false, narrowed := true }
def CyclesBasisUptoSaid : Prop := cyclesBasisUptoRow.holds Try.pinned (OpenSpec.upto cyclesBasisSpec)

/-- 'fringelaw28.CyclesCoefs', WHERE WHAT IT READS IS OF BULK AT MOST 1048576: true; the input reads as it did. -/
def cyclesCoefsUptoRow : OpenClaim := { program := "ytmkiclinllifiaa", sum := "aa1c9bc618761457494ad09330d230167fe6e57edd0b11ceaaf80ce920c7c933", func := "fringe/fringelaw28.CyclesCoefs", spec := "cyclesCoefs", unfollowed := true, recurses := true, plainKeys := false, apart := false, narrowed := true }
def CyclesCoefsUptoSaid : Prop := cyclesCoefsUptoRow.holds Try.pinned (OpenSpec.upto cyclesCoefsSpec)

/-- 'fringelaw28.CyclesWays', WHERE WHAT IT READS IS OF BULK AT MOST 1048576: true; the input reads as it did. -/
def cyclesWaysUptoRow : OpenClaim := { program := "ytmkiclinllifiaa", sum := "aa1c9bc618761457494ad09330d230167fe6e57edd0b11ceaaf80ce920c7c933", func := "fringe/fringelaw28.CyclesWays", spec := "cyclesWays", unfollowed := true, recurses := true, plainKeys := false, apart := false, narrowed := true }
def CyclesWaysUptoSaid : Prop := cyclesWaysUptoRow.holds Try.pinned (OpenSpec.upto cyclesWaysSpec)

/-- 'fringelaw28.CyclesProduct', WHERE WHAT IT READS IS OF BULK AT MOST 1048576: true; the input reads as it did. -/
def cyclesProductUptoRow : OpenClaim := { program := "ytmkiclinllifiaa", sum := "aa1c9bc618761457494ad09330d230167fe6e57edd0b11ceaaf80ce920c7c933", func := "fringe/fringelaw28.CyclesProduct", spec := "cyclesProduct", unfollowed := true, recurses := true, plainKeys := false, apart := false, narrowed := true }
def CyclesProductUptoSaid : Prop := cyclesProductUptoRow.holds Try.pinned (OpenSpec.upto cyclesProductSpec)

/-- 'fringelaw28.CyclesNames', WHERE WHAT IT READS IS OF BULK AT MOST 1048576: true; the input reads as it did. -/
def cyclesNamesUptoRow : OpenClaim := { program := "ytmkiclinllifiaa", sum := "aa1c9bc618761457494ad09330d230167fe6e57edd0b11ceaaf80ce920c7c933", func := "fringe/fringelaw28.CyclesNames", spec := "cyclesNames", unfollowed := true, recurses := true, plainKeys := false, apart := false, narrowed := true }
def CyclesNamesUptoSaid : Prop := cyclesNamesUptoRow.holds Try.pinned (OpenSpec.upto cyclesNamesSpec)

end Rows
end Go.Proofs.Ytmkiclinllifiaa
