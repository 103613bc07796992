/-
  No cell of these rows narrows 'for every input' (looked for: loops, veiled, ifaces, maps, wideKeys, modest, calm, conditions, laid).
  DERIVED. THE GIVEN ROWS OF THIS SEAT. 6 by the template 'for every input the law returns true; each argument reads behind the call as it read before'; 0 by the template 'total and deterministic' (their statements: YtkbgkjlgnmlghaaTotals.lean).
  GIVEN WITH THE SEED: the statements are not yours to turn. If you find one false, say at which input.
  Laid BY PROGRAM, IN A SANDBOX (cutbox-rows.mjs): the forced cells as the released guide's own fill.sh prints them over the translation 7792387981f2da80… (all of the seat's roots in one cut). By AI agents, Wed Nov 11 2026. No macro, syntax, notation, axiom, sorry.
-/
import Derived.Test.YtkbgkjlgnmlghaaChecked
import GoSem.Claim
import GoSem.ClaimJoined
import GoSem.ClaimMapViews
import Derived.JoinedTies
import Derived.KernelRfl
namespace Go.Proofs.Ytkbgkjlgnmlghaa
/- THE CELL 'sum', in the pinned program and in every row, IS THE sha256 OF THE DUMP (.gsa) THAT YtkbgkjlgnmlghaaProg.lean LOADS. Nothing in Lean hashes anything: it is a label: what it is worth is what the hold of that sum in a sandbox is worth. -/
noncomputable def Try.pinned : Pinned := { name := "ytkbgkjlgnmlghaa", sum := "7792387981f2da80ba35cac7263e18497e3aeae546c152b17d06503bd2393359", checked := Try.checked }
namespace Rows
def none {H : Type} : Left H := { results := [], args := [] }

/-- 'fringelaw36.CellsGrids': WHATEVER THE INPUT: true; the input reads as it did. -/
def cellsGridsSpec : ChangeSpec := { name := "cellsGrids", fn := fun _ => fun
  | [d1, d2, d3, d4] => { results := [.lit (.bool true)], args := [d1, d2, d3, d4] }
  | _ => none }
def cellsGridsRow : OpenClaim := { program := "ytkbgkjlgnmlghaa", sum := "7792387981f2da80ba35cac7263e18497e3aeae546c152b17d06503bd2393359", func := "fringe/fringelaw36.CellsGrids", spec := "cellsGrids", inPlace := ["math/bits.Add64", "math/bits.Sub64"], unfollowed := true, recurses := true, named := ["math/bits.divideError", "math/bits.overflowError"], apart := false }
def CellsGridsSaid : Prop := cellsGridsRow.holds Try.pinned (OpenSpec.ofChange cellsGridsSpec)

/-- ITS FALSE NEIGHBOUR: 'it returns false'. Refute it at one input. -/
def cellsGridsWrong : ChangeSpec := { name := "cellsGrids", fn := fun _ => fun
  | [d1, d2, d3, d4] => { results := [.lit (.bool false)], args := [d1, d2, d3, d4] }
  | _ => none }
def CellsGridsWrongFalsely : Prop := cellsGridsRow.holds Try.pinned (OpenSpec.ofChange cellsGridsWrong)

/-- 'fringelaw36.CellsLinear': WHATEVER THE INPUT: true; the input reads as it did. -/
def cellsLinearSpec : ChangeSpec := { name := "cellsLinear", fn := fun _ => fun
  | [d1, d2, d3, d4, d5] => { results := [.lit (.bool true)], args := [d1, d2, d3, d4, d5] }
  | _ => none }
def cellsLinearRow : OpenClaim := { program := "ytkbgkjlgnmlghaa", sum := "7792387981f2da80ba35cac7263e18497e3aeae546c152b17d06503bd2393359", func := "fringe/fringelaw36.CellsLinear", spec := "cellsLinear", inPlace := ["math/bits.Add64", "math/bits.Sub64"], unfollowed := true, recurses := true, named := ["math/bits.divideError", "math/bits.overflowError"], apart := false }
def CellsLinearSaid : Prop := cellsLinearRow.holds Try.pinned (OpenSpec.ofChange cellsLinearSpec)

/-- ITS FALSE NEIGHBOUR: 'it returns false'. Refute it at one input. -/
def cellsLinearWrong : ChangeSpec := { name := "cellsLinear", fn := fun _ => fun
  | [d1, d2, d3, d4, d5] => { results := [.lit (.bool false)], args := [d1, d2, d3, d4, d5] }
  | _ => none }
def CellsLinearWrongFalsely : Prop := cellsLinearRow.holds Try.pinned (OpenSpec.ofChange cellsLinearWrong)

/-- 'fringelaw36.CellsParts': WHATEVER THE INPUT: true; the input reads as it did. -/
def cellsPartsSpec : ChangeSpec := { name := "cellsParts", fn := fun _ => fun
  | [d1, d2] => { results := [.lit (.bool true)], args := [d1, d2] }
  | _ => none }
def cellsPartsRow : OpenClaim := { program := "ytkbgkjlgnmlghaa", sum := "7792387981f2da80ba35cac7263e18497e3aeae546c152b17d06503bd2393359", func := "fringe/fringelaw36.CellsParts", spec := "cellsParts", inPlace := ["math/bits.Add64", "math/bits.Sub64"], unfollowed := true, recurses := true, named := ["math/bits.divideError", "math/bits.overflowError"], apart := false }
def CellsPartsSaid : Prop := cellsPartsRow.holds Try.pinned (OpenSpec.ofChange cellsPartsSpec)

/-- ITS FALSE NEIGHBOUR: 'it returns false'. Refute it at one input. -/
def cellsPartsWrong : ChangeSpec := { name := "cellsParts", fn := fun _ => fun
  | [d1, d2] => { results := [.lit (.bool false)], args := [d1, d2] }
  | _ => none }
def CellsPartsWrongFalsely : Prop := cellsPartsRow.holds Try.pinned (OpenSpec.ofChange cellsPartsWrong)

/-- 'fringelaw36.CellsEven': WHATEVER THE INPUT: true; the input reads as it did. -/
def cellsEvenSpec : ChangeSpec := { name := "cellsEven", fn := fun _ => fun
  | [d1, d2, d3] => { results := [.lit (.bool true)], args := [d1, d2, d3] }
  | _ => none }
def cellsEvenRow : OpenClaim := { program := "ytkbgkjlgnmlghaa", sum := "7792387981f2da80ba35cac7263e18497e3aeae546c152b17d06503bd2393359", func := "fringe/fringelaw36.CellsEven", spec := "cellsEven", inPlace := ["math/bits.Add64", "math/bits.Sub64"], unfollowed := true, recurses := true, named := ["math/bits.divideError", "math/bits.overflowError"], apart := false }
def CellsEvenSaid : Prop := cellsEvenRow.holds Try.pinned (OpenSpec.ofChange cellsEvenSpec)

/-- ITS FALSE NEIGHBOUR: 'it returns false'. Refute it at one input. -/
def cellsEvenWrong : ChangeSpec := { name := "cellsEven", fn := fun _ => fun
  | [d1, d2, d3] => { results := [.lit (.bool false)], args := [d1, d2, d3] }
  | _ => none }
def CellsEvenWrongFalsely : Prop := cellsEvenRow.holds Try.pinned (OpenSpec.ofChange cellsEvenWrong)

/-- 'fringelaw36.CellsNames': WHATEVER THE INPUT: true; the input reads as it did. -/
def cellsNamesSpec : ChangeSpec := { name := "cellsNames", fn := fun _ => fun
  | [] => { results := [.lit (.bool true)], args := [] }
  | _ => none }
def cellsNamesRow : OpenClaim := { program := "ytkbgkjlgnmlghaa", sum := "7792387981f2da80ba35cac7263e18497e3aeae546c152b17d06503bd2393359", func := "fringe/fringelaw36.CellsNames", spec := "cellsNames", inPlace := ["math/bits.Add64", "math/bits.Sub64"], unfollowed := true, recurses := true, named := ["math/bits.divideError", "math/bits.overflowError"], apart := false }
def CellsNamesSaid : Prop := cellsNamesRow.holds Try.pinned (OpenSpec.ofChange cellsNamesSpec)

/-- ITS FALSE NEIGHBOUR: 'it returns false'. Refute it at one input. -/
def cellsNamesWrong : ChangeSpec := { name := "cellsNames", fn := fun _ => fun
  | [] => { results := [.lit (.bool false)], args := [] }
  | _ => none }
def CellsNamesWrongFalsely : Prop := cellsNamesRow.holds Try.pinned (OpenSpec.ofChange cellsNamesWrong)

/-- 'fringelaw36.CellsTranspose': WHATEVER THE INPUT: true; the input reads as it did. -/
def cellsTransposeSpec : ChangeSpec := { name := "cellsTranspose", fn := fun _ => fun
  | [d1, d2, d3] => { results := [.lit (.bool true)], args := [d1, d2, d3] }
  | _ => none }
def cellsTransposeRow : OpenClaim := { program := "ytkbgkjlgnmlghaa", sum := "7792387981f2da80ba35cac7263e18497e3aeae546c152b17d06503bd2393359", func := "fringe/fringelaw36.CellsTranspose", spec := "cellsTranspose", inPlace := ["math/bits.Add64", "math/bits.Sub64"], unfollowed := true, recurses := true, named := ["math/bits.divideError", "math/bits.overflowError"], apart := false }
def CellsTransposeSaid : Prop := cellsTransposeRow.holds Try.pinned (OpenSpec.ofChange cellsTransposeSpec)

/-- ITS FALSE NEIGHBOUR: 'it returns false'. Refute it at one input. -/
def cellsTransposeWrong : ChangeSpec := { name := "cellsTranspose", fn := fun _ => fun
  | [d1, d2, d3] => { results := [.lit (.bool false)], args := [d1, d2, d3] }
  | _ => none }
def CellsTransposeWrongFalsely : Prop := cellsTransposeRow.holds Try.pinned (OpenSpec.ofChange cellsTransposeWrong)

/- THE SECOND FORM. 'bulk': how many values and letters a reading holds, each counted each time it is reached (what is shared counts as often as it is met; a slice's spare places count too). A statement '..UptoSaid' is the law's where the arguments, and the package variables that the reading takes, are together of bulk at most 1048576: NARROWER than '..Said'. Prove '..Said' where nothing that the law and all that it calls make is longer than what came in: it says more and counts as full. Else prove '..UptoSaid'. A law counts once. -/
mutual
def uptoBulk {H : Type} : DataW H → Nat
  | .lit (.string bytes) => bytes.length + 1
  | .lit _ => 1
  | .nil => 1
  | .ptr d => uptoBulk d + 1
  | .slice elems spare => uptoBulkAll elems + uptoBulkAll spare + 1
  | .agg parts => uptoBulkAll parts + 1
  | .iface _ d => uptoBulk d + 1
  | .map entries => uptoBulkEntries entries + 1
  | .held _ => 1
def uptoBulkAll {H : Type} : List (DataW H) → Nat
  | [] => 0
  | d :: r => uptoBulk d + uptoBulkAll r
def uptoBulkEntries {H : Type} : List (Lit × DataW H) → Nat
  | [] => 0
  | x :: r => uptoBulkEntry x + uptoBulkEntries r
def uptoBulkEntry {H : Type} : Lit × DataW H → Nat
  | (.string bytes, d) => bytes.length + uptoBulk d + 1
  | (_, d) => uptoBulk d + 1
 end
def uptoSmall : (H : Type) → List (DataW H) → Bool := fun _ ds => decide (uptoBulkAll ds ≤ 1048576)
def OpenSpec.upto (s : _root_.Go.ChangeSpec) : _root_.Go.OpenSpec := { _root_.Go.OpenSpec.ofChange s with cond := some uptoSmall }

/-- 'fringelaw36.CellsGrids', WHERE WHAT IT READS IS OF BULK AT MOST 1048576: true; the input reads as it did. -/
def cellsGridsUptoRow : OpenClaim := { program := "ytkbgkjlgnmlghaa", sum := "7792387981f2da80ba35cac7263e18497e3aeae546c152b17d06503bd2393359", func := "fringe/fringelaw36.CellsGrids", spec := "cellsGrids", inPlace := ["math/bits.Add64", "math/bits.Sub64"], unfollowed := true, recurses := true, named := ["math/bits.divideError", "math/bits.overflowError"], apart := false, narrowed := true }
def CellsGridsUptoSaid : Prop := cellsGridsUptoRow.holds Try.pinned (OpenSpec.upto cellsGridsSpec)

/-- 'fringelaw36.CellsLinear', WHERE WHAT IT READS IS OF BULK AT MOST 1048576: true; the input reads as it did. -/
def cellsLinearUptoRow : OpenClaim := { program := "ytkbgkjlgnmlghaa", sum := "7792387981f2da80ba35cac7263e18497e3aeae546c152b17d06503bd2393359", func := "fringe/fringelaw36.CellsLinear", spec := "cellsLinear", inPlace := ["math/bits.Add64", "math/bits.Sub64"], unfollowed := true, recurses := true, named := ["math/bits.divideError", "math/bits.overflowError"], apart := false, narrowed := true }
def CellsLinearUptoSaid : Prop := cellsLinearUptoRow.holds Try.pinned (OpenSpec.upto cellsLinearSpec)

/-- 'fringelaw36.CellsParts', WHERE WHAT IT READS IS OF BULK AT MOST 1048576: true; the input reads as it did. -/
def cellsPartsUptoRow : OpenClaim := { program := "ytkbgkjlgnmlghaa", sum := "7792387981f2da80ba35cac7263e18497e3aeae546c152b17d06503bd2393359", func := "fringe/fringelaw36.CellsParts", spec := "cellsParts", inPlace := ["math/bits.Add64", "math/bits.Sub64"], unfollowed := true, recurses := true, named := ["math/bits.divideError", "math/bits.overflowError"], apart := false, narrowed := true }
def CellsPartsUptoSaid : Prop := cellsPartsUptoRow.holds Try.pinned (OpenSpec.upto cellsPartsSpec)

/-- 'fringelaw36.CellsEven', WHERE WHAT IT READS IS OF BULK AT MOST 1048576: true; the input reads as it did. -/
def cellsEvenUptoRow : OpenClaim := { program := "ytkbgkjlgnmlghaa", sum := "7792387981f2da80ba35cac7263e18497e3aeae546c152b17d06503bd2393359", func := "fringe/fringelaw36.CellsEven", spec := "cellsEven", inPlace := ["math/bits.Add64", "math/bits.Sub64"], unfollowed := true, recurses := true, named := ["math/bits.divideError", "math/bits.overflowError"], apart := false, narrowed := true }
def CellsEvenUptoSaid : Prop := cellsEvenUptoRow.holds Try.pinned (OpenSpec.upto cellsEvenSpec)

/-- 'fringelaw36.CellsNames', WHERE WHAT IT READS IS OF BULK AT MOST 1048576: true; the input reads as it did. -/
def cellsNamesUptoRow : OpenClaim := { program := "ytkbgkjlgnmlghaa", sum := "7792387981f2da80ba35cac7263e18497e3aeae546c152b17d06503bd2393359", func := "fringe/fringelaw36.CellsNames", spec := "cellsNames", inPlace := ["math/bits.Add64", "math/bits.Sub64"], unfollowed := true, recurses := true, named := ["math/bits.divideError", "math/bits.overflowError"], apart := false, narrowed := true }
def CellsNamesUptoSaid : Prop := cellsNamesUptoRow.holds Try.pinned (OpenSpec.upto cellsNamesSpec)

/-- 'fringelaw36.CellsTranspose', WHERE WHAT IT READS IS OF BULK AT MOST 1048576: true; the input reads as it did. -/
def cellsTransposeUptoRow : OpenClaim := { program := "ytkbgkjlgnmlghaa", sum := "7792387981f2da80ba35cac7263e18497e3aeae546c152b17d06503bd2393359", func := "fringe/fringelaw36.CellsTranspose", spec := "cellsTranspose", inPlace := ["math/bits.Add64", "math/bits.Sub64"], unfollowed := true, recurses := true, named := ["math/bits.divideError", "math/bits.overflowError"], apart := false, narrowed := true }
def CellsTransposeUptoSaid : Prop := cellsTransposeUptoRow.holds Try.pinned (OpenSpec.upto cellsTransposeSpec)

end Rows
end Go.Proofs.Ytkbgkjlgnmlghaa
