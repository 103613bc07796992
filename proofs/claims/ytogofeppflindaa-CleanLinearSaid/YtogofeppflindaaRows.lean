/-
  No cell of these rows narrows 'for every input' (looked for: loops, veiled, ifaces, maps, wideKeys, modest, calm, conditions, laid).
  DERIVED. THE GIVEN ROWS OF THIS SEAT. 7 by the template 'for every input the law returns true; each argument reads behind the call as it read before'; 0 by the template 'total and deterministic' (their statements: YtogofeppflindaaTotals.lean).
  GIVEN WITH THE SEED: the statements are not yours to turn. If you find one false, say at which input.
  Laid BY PROGRAM, IN A SANDBOX (cutbox-rows.mjs): the forced cells as the released guide's own fill.sh prints them over the translation 57e5ca62138bb77f… (all of the seat's roots in one cut). By AI agents, Wed Nov 11 2026. No macro, syntax, notation, axiom, sorry.
-/
import Derived.Test.YtogofeppflindaaChecked
import GoSem.Claim
import GoSem.ClaimJoined
import GoSem.ClaimMapViews
import Derived.JoinedTies
import Derived.KernelRfl
namespace Go.Proofs.Ytogofeppflindaa
/- THE CELL 'sum', in the pinned program and in every row, IS THE sha256 OF THE DUMP (.gsa) THAT YtogofeppflindaaProg.lean LOADS. Nothing in Lean hashes anything: it is a label: what it is worth is what the hold of that sum in a sandbox is worth. -/
noncomputable def Try.pinned : Pinned := { name := "ytogofeppflindaa", sum := "57e5ca62138bb77f72832a58a9caed585756f5fd695902385de64e5178a3f329", checked := Try.checked }
namespace Rows
def none {H : Type} : Left H := { results := [], args := [] }

/-- 'fringelaw40.CleanRuns': WHATEVER THE INPUT: true; the input reads as it did. -/
def cleanRunsSpec : ChangeSpec := { name := "cleanRuns", fn := fun _ => fun
  | [d1, d2, d3] => { results := [.lit (.bool true)], args := [d1, d2, d3] }
  | _ => none }
def cleanRunsRow : OpenClaim := { program := "ytogofeppflindaa", sum := "57e5ca62138bb77f72832a58a9caed585756f5fd695902385de64e5178a3f329", func := "fringe/fringelaw40.CleanRuns", spec := "cleanRuns", unfollowed := true, recurses := true, apart := false }
def CleanRunsSaid : Prop := cleanRunsRow.holds Try.pinned (OpenSpec.ofChange cleanRunsSpec)

/-- ITS FALSE NEIGHBOUR: 'it returns false'. Refute it at one input. -/
def cleanRunsWrong : ChangeSpec := { name := "cleanRuns", fn := fun _ => fun
  | [d1, d2, d3] => { results := [.lit (.bool false)], args := [d1, d2, d3] }
  | _ => none }
def CleanRunsWrongFalsely : Prop := cleanRunsRow.holds Try.pinned (OpenSpec.ofChange cleanRunsWrong)

/-- 'fringelaw40.CleanReplays': WHATEVER THE INPUT: true; the input reads as it did. -/
def cleanReplaysSpec : ChangeSpec := { name := "cleanReplays", fn := fun _ => fun
  | [d1, d2, d3, d4] => { results := [.lit (.bool true)], args := [d1, d2, d3, d4] }
  | _ => none }
def cleanReplaysRow : OpenClaim := { program := "ytogofeppflindaa", sum := "57e5ca62138bb77f72832a58a9caed585756f5fd695902385de64e5178a3f329", func := "fringe/fringelaw40.CleanReplays", spec := "cleanReplays", unfollowed := true, recurses := true, apart := false }
def CleanReplaysSaid : Prop := cleanReplaysRow.holds Try.pinned (OpenSpec.ofChange cleanReplaysSpec)

/-- ITS FALSE NEIGHBOUR: 'it returns false'. Refute it at one input. -/
def cleanReplaysWrong : ChangeSpec := { name := "cleanReplays", fn := fun _ => fun
  | [d1, d2, d3, d4] => { results := [.lit (.bool false)], args := [d1, d2, d3, d4] }
  | _ => none }
def CleanReplaysWrongFalsely : Prop := cleanReplaysRow.holds Try.pinned (OpenSpec.ofChange cleanReplaysWrong)

/-- 'fringelaw40.CleanSinks': WHATEVER THE INPUT: true; the input reads as it did. -/
def cleanSinksSpec : ChangeSpec := { name := "cleanSinks", fn := fun _ => fun
  | [d1, d2, d3] => { results := [.lit (.bool true)], args := [d1, d2, d3] }
  | _ => none }
def cleanSinksRow : OpenClaim := { program := "ytogofeppflindaa", sum := "57e5ca62138bb77f72832a58a9caed585756f5fd695902385de64e5178a3f329", func := "fringe/fringelaw40.CleanSinks", spec := "cleanSinks", unfollowed := true, recurses := true, apart := false }
def CleanSinksSaid : Prop := cleanSinksRow.holds Try.pinned (OpenSpec.ofChange cleanSinksSpec)

/-- ITS FALSE NEIGHBOUR: 'it returns false'. Refute it at one input. -/
def cleanSinksWrong : ChangeSpec := { name := "cleanSinks", fn := fun _ => fun
  | [d1, d2, d3] => { results := [.lit (.bool false)], args := [d1, d2, d3] }
  | _ => none }
def CleanSinksWrongFalsely : Prop := cleanSinksRow.holds Try.pinned (OpenSpec.ofChange cleanSinksWrong)

/-- 'fringelaw40.CleanEnds': WHATEVER THE INPUT: true; the input reads as it did. -/
def cleanEndsSpec : ChangeSpec := { name := "cleanEnds", fn := fun _ => fun
  | [d1, d2, d3, d4] => { results := [.lit (.bool true)], args := [d1, d2, d3, d4] }
  | _ => none }
def cleanEndsRow : OpenClaim := { program := "ytogofeppflindaa", sum := "57e5ca62138bb77f72832a58a9caed585756f5fd695902385de64e5178a3f329", func := "fringe/fringelaw40.CleanEnds", spec := "cleanEnds", unfollowed := true, recurses := true, apart := false }
def CleanEndsSaid : Prop := cleanEndsRow.holds Try.pinned (OpenSpec.ofChange cleanEndsSpec)

/-- ITS FALSE NEIGHBOUR: 'it returns false'. Refute it at one input. -/
def cleanEndsWrong : ChangeSpec := { name := "cleanEnds", fn := fun _ => fun
  | [d1, d2, d3, d4] => { results := [.lit (.bool false)], args := [d1, d2, d3, d4] }
  | _ => none }
def CleanEndsWrongFalsely : Prop := cleanEndsRow.holds Try.pinned (OpenSpec.ofChange cleanEndsWrong)

/-- 'fringelaw40.CleanLinear': WHATEVER THE INPUT: true; the input reads as it did. -/
def cleanLinearSpec : ChangeSpec := { name := "cleanLinear", fn := fun _ => fun
  | [d1, d2, d3, d4] => { results := [.lit (.bool true)], args := [d1, d2, d3, d4] }
  | _ => none }
def cleanLinearRow : OpenClaim := { program := "ytogofeppflindaa", sum := "57e5ca62138bb77f72832a58a9caed585756f5fd695902385de64e5178a3f329", func := "fringe/fringelaw40.CleanLinear", spec := "cleanLinear", unfollowed := true, recurses := true, apart := false }
def CleanLinearSaid : Prop := cleanLinearRow.holds Try.pinned (OpenSpec.ofChange cleanLinearSpec)

/-- ITS FALSE NEIGHBOUR: 'it returns false'. Refute it at one input. -/
def cleanLinearWrong : ChangeSpec := { name := "cleanLinear", fn := fun _ => fun
  | [d1, d2, d3, d4] => { results := [.lit (.bool false)], args := [d1, d2, d3, d4] }
  | _ => none }
def CleanLinearWrongFalsely : Prop := cleanLinearRow.holds Try.pinned (OpenSpec.ofChange cleanLinearWrong)

/-- 'fringelaw40.CleanLogs': WHATEVER THE INPUT: true; the input reads as it did. -/
def cleanLogsSpec : ChangeSpec := { name := "cleanLogs", fn := fun _ => fun
  | [d1, d2, d3] => { results := [.lit (.bool true)], args := [d1, d2, d3] }
  | _ => none }
def cleanLogsRow : OpenClaim := { program := "ytogofeppflindaa", sum := "57e5ca62138bb77f72832a58a9caed585756f5fd695902385de64e5178a3f329", func := "fringe/fringelaw40.CleanLogs", spec := "cleanLogs", unfollowed := true, recurses := true, apart := false }
def CleanLogsSaid : Prop := cleanLogsRow.holds Try.pinned (OpenSpec.ofChange cleanLogsSpec)

/-- ITS FALSE NEIGHBOUR: 'it returns false'. Refute it at one input. -/
def cleanLogsWrong : ChangeSpec := { name := "cleanLogs", fn := fun _ => fun
  | [d1, d2, d3] => { results := [.lit (.bool false)], args := [d1, d2, d3] }
  | _ => none }
def CleanLogsWrongFalsely : Prop := cleanLogsRow.holds Try.pinned (OpenSpec.ofChange cleanLogsWrong)

/-- 'fringelaw40.CleanNames': WHATEVER THE INPUT: true; the input reads as it did. -/
def cleanNamesSpec : ChangeSpec := { name := "cleanNames", fn := fun _ => fun
  | [] => { results := [.lit (.bool true)], args := [] }
  | _ => none }
def cleanNamesRow : OpenClaim := { program := "ytogofeppflindaa", sum := "57e5ca62138bb77f72832a58a9caed585756f5fd695902385de64e5178a3f329", func := "fringe/fringelaw40.CleanNames", spec := "cleanNames", unfollowed := true, recurses := true, apart := false }
def CleanNamesSaid : Prop := cleanNamesRow.holds Try.pinned (OpenSpec.ofChange cleanNamesSpec)

/-- ITS FALSE NEIGHBOUR: 'it returns false'. Refute it at one input. -/
def cleanNamesWrong : ChangeSpec := { name := "cleanNames", fn := fun _ => fun
  | [] => { results := [.lit (.bool false)], args := [] }
  | _ => none }
def CleanNamesWrongFalsely : Prop := cleanNamesRow.holds Try.pinned (OpenSpec.ofChange cleanNamesWrong)

/- THE SECOND FORM. 'bulk': how many values and letters a reading holds, each counted each time it is reached (what is shared counts as often as it is met; a slice's spare places count too). A statement '..UptoSaid' is the law's where the arguments, and the package variables that the reading takes, are together of bulk at most 1048576: NARROWER than '..Said'. Prove '..Said' where nothing that the law and all that it calls make is longer than what came in: it says more and counts as full. Else prove '..UptoSaid'. A law counts once. -/
mutual
def uptoBulk {H : Type} : DataW H → Nat
  | .lit (.string bytes) => bytes.length + 1
  | .lit _ => 1
  | .nil => 1
  | .ptr d => uptoBulk d + 1
  | .slice elems spare => uptoBulkAll elems + uptoBulkAll spare + 1
  | .agg parts => uptoBulkAll parts + 1
  | .iface _ d => uptoBulk d + 1
  | .map entries => uptoBulkEntries entries + 1
  | .held _ => 1
def uptoBulkAll {H : Type} : List (DataW H) → Nat
  | [] => 0
  | d :: r => uptoBulk d + uptoBulkAll r
def uptoBulkEntries {H : Type} : List (Lit × DataW H) → Nat
  | [] => 0
  | x :: r => uptoBulkEntry x + uptoBulkEntries r
def uptoBulkEntry {H : Type} : Lit × DataW H → Nat
  | (.string bytes, d) => bytes.length + uptoBulk d + 1
  | (_, d) => uptoBulk d + 1
 end
def uptoSmall : (H : Type) → List (DataW H) → Bool := fun _ ds => decide (uptoBulkAll ds ≤ 1048576)
def OpenSpec.upto (s : _root_.Go.ChangeSpec) : _root_.Go.OpenSpec := { _root_.Go.OpenSpec.ofChange s with cond := some uptoSmall }

/-- 'fringelaw40.CleanRuns', WHERE WHAT IT READS IS OF BULK AT MOST 1048576: true; the input reads as it did. -/
def cleanRunsUptoRow : OpenClaim := { program := "ytogofeppflindaa", sum := "57e5ca62138bb77f72832a58a9caed585756f5fd695902385de64e5178a3f329", func := "fringe/fringelaw40.CleanRuns", spec := "cleanRuns", unfollowed := true, recurses := true, apart := false, narrowed := true }
def CleanRunsUptoSaid : Prop := cleanRunsUptoRow.holds Try.pinned (OpenSpec.upto cleanRunsSpec)

/-- 'fringelaw40.CleanReplays', WHERE WHAT IT READS IS OF BULK AT MOST 1048576: true; the input reads as it did. -/
def cleanReplaysUptoRow : OpenClaim := { program := "ytogofeppflindaa", sum := "57e5ca62138bb77f72832a58a9caed585756f5fd695902385de64e5178a3f329", func := "fringe/fringelaw40.CleanReplays", spec := "cleanReplays", unfollowed := true, recurses := true, apart := false, narrowed := true }
def CleanReplaysUptoSaid : Prop := cleanReplaysUptoRow.holds Try.pinned (OpenSpec.upto cleanReplaysSpec)

/-- 'fringelaw40.CleanSinks', WHERE WHAT IT READS IS OF BULK AT MOST 1048576: true; the input reads as it did. -/
def cleanSinksUptoRow : OpenClaim := { program := "ytogofeppflindaa", sum := "57e5ca62138bb77f72832a58a9caed585756f5fd695902385de64e5178a3f329", func := "fringe/fringelaw40.CleanSinks", spec := "cleanSinks", unfollowed := true, recurses := true, apart := false, narrowed := true }
def CleanSinksUptoSaid : Prop := cleanSinksUptoRow.holds Try.pinned (OpenSpec.upto cleanSinksSpec)

/-- 'fringelaw40.CleanEnds', WHERE WHAT IT READS IS OF BULK AT MOST 1048576: true; the input reads as it did. -/
def cleanEndsUptoRow : OpenClaim := { program := "ytogofeppflindaa", sum := "57e5ca62138bb77f72832a58a9caed585756f5fd695902385de64e5178a3f329", func := "fringe/fringelaw40.CleanEnds", spec := "cleanEnds", unfollowed := true, recurses := true, apart := false, narrowed := true }
def CleanEndsUptoSaid : Prop := cleanEndsUptoRow.holds Try.pinned (OpenSpec.upto cleanEndsSpec)

/-- 'fringelaw40.CleanLinear', WHERE WHAT IT READS IS OF BULK AT MOST 1048576: true; the input reads as it did. -/
def cleanLinearUptoRow : OpenClaim := { program := "ytogofeppflindaa", sum := "57e5ca62138bb77f72832a58a9caed585756f5fd695902385de64e5178a3f329", func := "fringe/fringelaw40.CleanLinear", spec := "cleanLinear", unfollowed := true, recurses := true, apart := false, narrowed := true }
def CleanLinearUptoSaid : Prop := cleanLinearUptoRow.holds Try.pinned (OpenSpec.upto cleanLinearSpec)

/-- 'fringelaw40.CleanLogs', WHERE WHAT IT READS IS OF BULK AT MOST 1048576: true; the input reads as it did. -/
def cleanLogsUptoRow : OpenClaim := { program := "ytogofeppflindaa", sum := "57e5ca62138bb77f72832a58a9caed585756f5fd695902385de64e5178a3f329", func := "fringe/fringelaw40.CleanLogs", spec := "cleanLogs", unfollowed := true, recurses := true, apart := false, narrowed := true }
def CleanLogsUptoSaid : Prop := cleanLogsUptoRow.holds Try.pinned (OpenSpec.upto cleanLogsSpec)

/-- 'fringelaw40.CleanNames', WHERE WHAT IT READS IS OF BULK AT MOST 1048576: true; the input reads as it did. -/
def cleanNamesUptoRow : OpenClaim := { program := "ytogofeppflindaa", sum := "57e5ca62138bb77f72832a58a9caed585756f5fd695902385de64e5178a3f329", func := "fringe/fringelaw40.CleanNames", spec := "cleanNames", unfollowed := true, recurses := true, apart := false, narrowed := true }
def CleanNamesUptoSaid : Prop := cleanNamesUptoRow.holds Try.pinned (OpenSpec.upto cleanNamesSpec)

end Rows
end Go.Proofs.Ytogofeppflindaa
