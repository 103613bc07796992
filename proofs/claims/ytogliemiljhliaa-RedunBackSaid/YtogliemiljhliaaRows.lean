/-
  No cell of these rows narrows 'for every input' (looked for: loops, veiled, ifaces, maps, wideKeys, modest, calm, conditions, laid).
  DERIVED. THE GIVEN ROWS OF THIS SEAT. 7 by the template 'for every input the law returns true; each argument reads behind the call as it read before'; 0 by the template 'total and deterministic' (their statements: YtogliemiljhliaaTotals.lean).
  GIVEN WITH THE SEED: the statements are not yours to turn. If you find one false, say at which input.
  Laid BY PROGRAM, IN A SANDBOX (cutbox-rows.mjs): the forced cells as the released guide's own fill.sh prints them over the translation dd54889eec1d29f6… (all of the seat's roots in one cut). By AI agents, Wed Nov 11 2026. No macro, syntax, notation, axiom, sorry.
-/
import Derived.Test.YtogliemiljhliaaChecked
import GoSem.Claim
import GoSem.ClaimJoined
import GoSem.ClaimMapViews
import Derived.JoinedTies
import Derived.KernelRfl
namespace Go.Proofs.Ytogliemiljhliaa
/- THE CELL 'sum', in the pinned program and in every row, IS THE sha256 OF THE DUMP (.gsa) THAT YtogliemiljhliaaProg.lean LOADS. Nothing in Lean hashes anything: it is a label: what it is worth is what the hold of that sum in a sandbox is worth. -/
noncomputable def Try.pinned : Pinned := { name := "ytogliemiljhliaa", sum := "dd54889eec1d29f6664319729808a8a2d7d9a8ca2fe9bf3d145be21bcecc0c4a", checked := Try.checked }
namespace Rows
def none {H : Type} : Left H := { results := [], args := [] }

/-- 'fringelaw31.RedunLines': WHATEVER THE INPUT: true; the input reads as it did. -/
def redunLinesSpec : ChangeSpec := { name := "redunLines", fn := fun _ => fun
  | [d] => { results := [.lit (.bool true)], args := [d] }
  | _ => none }
def redunLinesRow : OpenClaim := { program := "ytogliemiljhliaa", sum := "dd54889eec1d29f6664319729808a8a2d7d9a8ca2fe9bf3d145be21bcecc0c4a", func := "fringe/fringelaw31.RedunLines", spec := "redunLines", unfollowed := true, recurses := true, apart := false }
def RedunLinesSaid : Prop := redunLinesRow.holds Try.pinned (OpenSpec.ofChange redunLinesSpec)

/-- ITS FALSE NEIGHBOUR: 'it returns false'. Refute it at one input. -/
def redunLinesWrong : ChangeSpec := { name := "redunLines", fn := fun _ => fun
  | [d] => { results := [.lit (.bool false)], args := [d] }
  | _ => none }
def RedunLinesWrongFalsely : Prop := redunLinesRow.holds Try.pinned (OpenSpec.ofChange redunLinesWrong)

/-- 'fringelaw31.RedunClasses': WHATEVER THE INPUT: true; the input reads as it did. -/
def redunClassesSpec : ChangeSpec := { name := "redunClasses", fn := fun _ => fun
  | [d] => { results := [.lit (.bool true)], args := [d] }
  | _ => none }
def redunClassesRow : OpenClaim := { program := "ytogliemiljhliaa", sum := "dd54889eec1d29f6664319729808a8a2d7d9a8ca2fe9bf3d145be21bcecc0c4a", func := "fringe/fringelaw31.RedunClasses", spec := "redunClasses", unfollowed := true, recurses := true, apart := false }
def RedunClassesSaid : Prop := redunClassesRow.holds Try.pinned (OpenSpec.ofChange redunClassesSpec)

/-- ITS FALSE NEIGHBOUR: 'it returns false'. Refute it at one input. -/
def redunClassesWrong : ChangeSpec := { name := "redunClasses", fn := fun _ => fun
  | [d] => { results := [.lit (.bool false)], args := [d] }
  | _ => none }
def RedunClassesWrongFalsely : Prop := redunClassesRow.holds Try.pinned (OpenSpec.ofChange redunClassesWrong)

/-- 'fringelaw31.RedunExactly': WHATEVER THE INPUT: true; the input reads as it did. -/
def redunExactlySpec : ChangeSpec := { name := "redunExactly", fn := fun _ => fun
  | [d] => { results := [.lit (.bool true)], args := [d] }
  | _ => none }
def redunExactlyRow : OpenClaim := { program := "ytogliemiljhliaa", sum := "dd54889eec1d29f6664319729808a8a2d7d9a8ca2fe9bf3d145be21bcecc0c4a", func := "fringe/fringelaw31.RedunExactly", spec := "redunExactly", unfollowed := true, recurses := true, apart := false }
def RedunExactlySaid : Prop := redunExactlyRow.holds Try.pinned (OpenSpec.ofChange redunExactlySpec)

/-- ITS FALSE NEIGHBOUR: 'it returns false'. Refute it at one input. -/
def redunExactlyWrong : ChangeSpec := { name := "redunExactly", fn := fun _ => fun
  | [d] => { results := [.lit (.bool false)], args := [d] }
  | _ => none }
def RedunExactlyWrongFalsely : Prop := redunExactlyRow.holds Try.pinned (OpenSpec.ofChange redunExactlyWrong)

/-- 'fringelaw31.RedunMoves': WHATEVER THE INPUT: true; the input reads as it did. -/
def redunMovesSpec : ChangeSpec := { name := "redunMoves", fn := fun _ => fun
  | [d1, d2, d3] => { results := [.lit (.bool true)], args := [d1, d2, d3] }
  | _ => none }
def redunMovesRow : OpenClaim := { program := "ytogliemiljhliaa", sum := "dd54889eec1d29f6664319729808a8a2d7d9a8ca2fe9bf3d145be21bcecc0c4a", func := "fringe/fringelaw31.RedunMoves", spec := "redunMoves", unfollowed := true, recurses := true, apart := false }
def RedunMovesSaid : Prop := redunMovesRow.holds Try.pinned (OpenSpec.ofChange redunMovesSpec)

/-- ITS FALSE NEIGHBOUR: 'it returns false'. Refute it at one input. -/
def redunMovesWrong : ChangeSpec := { name := "redunMoves", fn := fun _ => fun
  | [d1, d2, d3] => { results := [.lit (.bool false)], args := [d1, d2, d3] }
  | _ => none }
def RedunMovesWrongFalsely : Prop := redunMovesRow.holds Try.pinned (OpenSpec.ofChange redunMovesWrong)

/-- 'fringelaw31.RedunSolves': WHATEVER THE INPUT: true; the input reads as it did. -/
def redunSolvesSpec : ChangeSpec := { name := "redunSolves", fn := fun _ => fun
  | [d1, d2, d3, d4] => { results := [.lit (.bool true)], args := [d1, d2, d3, d4] }
  | _ => none }
def redunSolvesRow : OpenClaim := { program := "ytogliemiljhliaa", sum := "dd54889eec1d29f6664319729808a8a2d7d9a8ca2fe9bf3d145be21bcecc0c4a", func := "fringe/fringelaw31.RedunSolves", spec := "redunSolves", inPlace := ["math/bits.Add64", "math/bits.Sub64"], unfollowed := true, recurses := true, named := ["math/bits.divideError", "math/bits.overflowError"], apart := false }
def RedunSolvesSaid : Prop := redunSolvesRow.holds Try.pinned (OpenSpec.ofChange redunSolvesSpec)

/-- ITS FALSE NEIGHBOUR: 'it returns false'. Refute it at one input. -/
def redunSolvesWrong : ChangeSpec := { name := "redunSolves", fn := fun _ => fun
  | [d1, d2, d3, d4] => { results := [.lit (.bool false)], args := [d1, d2, d3, d4] }
  | _ => none }
def RedunSolvesWrongFalsely : Prop := redunSolvesRow.holds Try.pinned (OpenSpec.ofChange redunSolvesWrong)

/-- 'fringelaw31.RedunNames': WHATEVER THE INPUT: true; the input reads as it did. -/
def redunNamesSpec : ChangeSpec := { name := "redunNames", fn := fun _ => fun
  | [] => { results := [.lit (.bool true)], args := [] }
  | _ => none }
def redunNamesRow : OpenClaim := { program := "ytogliemiljhliaa", sum := "dd54889eec1d29f6664319729808a8a2d7d9a8ca2fe9bf3d145be21bcecc0c4a", func := "fringe/fringelaw31.RedunNames", spec := "redunNames", inPlace := ["math/bits.Add64", "math/bits.Sub64"], unfollowed := true, recurses := true, named := ["math/bits.divideError", "math/bits.overflowError"], apart := false }
def RedunNamesSaid : Prop := redunNamesRow.holds Try.pinned (OpenSpec.ofChange redunNamesSpec)

/-- ITS FALSE NEIGHBOUR: 'it returns false'. Refute it at one input. -/
def redunNamesWrong : ChangeSpec := { name := "redunNames", fn := fun _ => fun
  | [] => { results := [.lit (.bool false)], args := [] }
  | _ => none }
def RedunNamesWrongFalsely : Prop := redunNamesRow.holds Try.pinned (OpenSpec.ofChange redunNamesWrong)

/-- 'fringelaw31.RedunBack': WHATEVER THE INPUT: true; the input reads as it did. -/
def redunBackSpec : ChangeSpec := { name := "redunBack", fn := fun _ => fun
  | [d1, d2, d3] => { results := [.lit (.bool true)], args := [d1, d2, d3] }
  | _ => none }
def redunBackRow : OpenClaim := { program := "ytogliemiljhliaa", sum := "dd54889eec1d29f6664319729808a8a2d7d9a8ca2fe9bf3d145be21bcecc0c4a", func := "fringe/fringelaw31.RedunBack", spec := "redunBack", inPlace := ["math/bits.Add64", "math/bits.Sub64"], unfollowed := true, recurses := true, named := ["math/bits.divideError", "math/bits.overflowError"], apart := false }
def RedunBackSaid : Prop := redunBackRow.holds Try.pinned (OpenSpec.ofChange redunBackSpec)

/-- ITS FALSE NEIGHBOUR: 'it returns false'. Refute it at one input. -/
def redunBackWrong : ChangeSpec := { name := "redunBack", fn := fun _ => fun
  | [d1, d2, d3] => { results := [.lit (.bool false)], args := [d1, d2, d3] }
  | _ => none }
def RedunBackWrongFalsely : Prop := redunBackRow.holds Try.pinned (OpenSpec.ofChange redunBackWrong)

/- THE SECOND FORM. 'bulk': how many values and letters a reading holds, each counted each time it is reached (what is shared counts as often as it is met; a slice's spare places count too). A statement '..UptoSaid' is the law's where the arguments, and the package variables that the reading takes, are together of bulk at most 1048576: NARROWER than '..Said'. Prove '..Said' where nothing that the law and all that it calls make is longer than what came in: it says more and counts as full. Else prove '..UptoSaid'. A law counts once. -/
mutual
def uptoBulk {H : Type} : DataW H → Nat
  | .lit (.string bytes) => bytes.length + 1
  | .lit _ => 1
  | .nil => 1
  | .ptr d => uptoBulk d + 1
  | .slice elems spare => uptoBulkAll elems + uptoBulkAll spare + 1
  | .agg parts => uptoBulkAll parts + 1
  | .iface _ d => uptoBulk d + 1
  | .map entries => uptoBulkEntries entries + 1
  | .held _ => 1
def uptoBulkAll {H : Type} : List (DataW H) → Nat
  | [] => 0
  | d :: r => uptoBulk d + uptoBulkAll r
def uptoBulkEntries {H : Type} : List (Lit × DataW H) → Nat
  | [] => 0
  | x :: r => uptoBulkEntry x + uptoBulkEntries r
def uptoBulkEntry {H : Type} : Lit × DataW H → Nat
  | (.string bytes, d) => bytes.length + uptoBulk d + 1
  | (_, d) => uptoBulk d + 1
 end
def uptoSmall : (H : Type) → List (DataW H) → Bool := fun _ ds => decide (uptoBulkAll ds ≤ 1048576)
def OpenSpec.upto (s : _root_.Go.ChangeSpec) : _root_.Go.OpenSpec := { _root_.Go.OpenSpec.ofChange s with cond := some uptoSmall }

/-- 'fringelaw31.RedunLines', WHERE WHAT IT READS IS OF BULK AT MOST 1048576: true; the input reads as it did. -/
def redunLinesUptoRow : OpenClaim := { program := "ytogliemiljhliaa", sum := "dd54889eec1d29f6664319729808a8a2d7d9a8ca2fe9bf3d145be21bcecc0c4a", func := "fringe/fringelaw31.RedunLines", spec := "redunLines", unfollowed := true, recurses := true, apart := false, narrowed := true }
def RedunLinesUptoSaid : Prop := redunLinesUptoRow.holds Try.pinned (OpenSpec.upto redunLinesSpec)

/-- 'fringelaw31.RedunClasses', WHERE WHAT IT READS IS OF BULK AT MOST 1048576: true; the input reads as it did. -/
def redunClassesUptoRow : OpenClaim := { program := "ytogliemiljhliaa", sum := "dd54889eec1d29f6664319729808a8a2d7d9a8ca2fe9bf3d145be21bcecc0c4a", func := "fringe/fringelaw31.RedunClasses", spec := "redunClasses", unfollowed := true, recurses := true, apart := false, narrowed := true }
def RedunClassesUptoSaid : Prop := redunClassesUptoRow.holds Try.pinned (OpenSpec.upto redunClassesSpec)

/-- 'fringelaw31.RedunExactly', WHERE WHAT IT READS IS OF BULK AT MOST 1048576: true; the input reads as it did. -/
def redunExactlyUptoRow : OpenClaim := { program := "ytogliemiljhliaa", sum := "dd54889eec1d29f6664319729808a8a2d7d9a8ca2fe9bf3d145be21bcecc0c4a", func := "fringe/fringelaw31.RedunExactly", spec := "redunExactly", unfollowed := true, recurses := true, apart := false, narrowed := true }
def RedunExactlyUptoSaid : Prop := redunExactlyUptoRow.holds Try.pinned (OpenSpec.upto redunExactlySpec)

/-- 'fringelaw31.RedunMoves', WHERE WHAT IT READS IS OF BULK AT MOST 1048576: true; the input reads as it did. -/
def redunMovesUptoRow : OpenClaim := { program := "ytogliemiljhliaa", sum := "dd54889eec1d29f6664319729808a8a2d7d9a8ca2fe9bf3d145be21bcecc0c4a", func := "fringe/fringelaw31.RedunMoves", spec := "redunMoves", unfollowed := true, recurses := true, apart := false, narrowed := true }
def RedunMovesUptoSaid : Prop := redunMovesUptoRow.holds Try.pinned (OpenSpec.upto redunMovesSpec)

/-- 'fringelaw31.RedunSolves', WHERE WHAT IT READS IS OF BULK AT MOST 1048576: true; the input reads as it did. -/
def redunSolvesUptoRow : OpenClaim := { program := "ytogliemiljhliaa", sum := "dd54889eec1d29f6664319729808a8a2d7d9a8ca2fe9bf3d145be21bcecc0c4a", func := "fringe/fringelaw31.RedunSolves", spec := "redunSolves", inPlace := ["math/bits.Add64", "math/bits.Sub64"], unfollowed := true, recurses := true, named := ["math/bits.divideError", "math/bits.overflowError"], apart := false, narrowed := true }
def RedunSolvesUptoSaid : Prop := redunSolvesUptoRow.holds Try.pinned (OpenSpec.upto redunSolvesSpec)

/-- 'fringelaw31.RedunNames', WHERE WHAT IT READS IS OF BULK AT MOST 1048576: true; the input reads as it did. -/
def redunNamesUptoRow : OpenClaim := { program := "ytogliemiljhliaa", sum := "dd54889eec1d29f6664319729808a8a2d7d9a8ca2fe9bf3d145be21bcecc0c4a", func := "fringe/fringelaw31.RedunNames", spec := "redunNames", inPlace := ["math/bits.Add64", "math/bits.Sub64"], unfollowed := true, recurses := true, named := ["math/bits.divideError", "math/bits.overflowError"], apart := false, narrowed := true }
def RedunNamesUptoSaid : Prop := redunNamesUptoRow.holds Try.pinned (OpenSpec.upto redunNamesSpec)

/-- 'fringelaw31.RedunBack', WHERE WHAT IT READS IS OF BULK AT MOST 1048576: true; the input reads as it did. -/
def redunBackUptoRow : OpenClaim := { program := "ytogliemiljhliaa", sum := "dd54889eec1d29f6664319729808a8a2d7d9a8ca2fe9bf3d145be21bcecc0c4a", func := "fringe/fringelaw31.RedunBack", spec := "redunBack", inPlace := ["math/bits.Add64", "math/bits.Sub64"], unfollowed := true, recurses := true, named := ["math/bits.divideError", "math/bits.overflowError"], apart := false, narrowed := true }
def RedunBackUptoSaid : Prop := redunBackUptoRow.holds Try.pinned (OpenSpec.upto redunBackSpec)

end Rows
end Go.Proofs.Ytogliemiljhliaa
