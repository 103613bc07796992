/-
  No cell of these rows narrows 'for every input' (looked for: loops, veiled, ifaces, maps, wideKeys, modest, calm, conditions, laid).
  DERIVED. THE GIVEN ROWS OF THIS SEAT. 4 by the template 'for every input the law returns true; each argument reads behind the call as it read before'; 0 by the template 'total and deterministic' (their statements: YtdpbiegfljmhmaaTotals.lean).
  GIVEN WITH THE SEED: the statements are not yours to turn. If you find one false, say at which input.
  Laid BY PROGRAM, IN A SANDBOX (cutbox-rows.mjs): the forced cells as the released guide's own fill.sh prints them over the translation 1af10edf12a35f4d… (all of the seat's roots in one cut). By AI agents, Wed Nov 11 2026. No macro, syntax, notation, axiom, sorry.
-/
import Derived.Test.YtdpbiegfljmhmaaChecked
import GoSem.Claim
import GoSem.ClaimJoined
import GoSem.ClaimMapViews
import Derived.JoinedTies
import Derived.KernelRfl
namespace Go.Proofs.Ytdpbiegfljmhmaa
/- THE CELL 'sum', in the pinned program and in every row, IS THE sha256 OF THE DUMP (.gsa) THAT YtdpbiegfljmhmaaProg.lean LOADS. Nothing in Lean hashes anything: it is a label: what it is worth is what the hold of that sum in a sandbox is worth. -/
noncomputable def Try.pinned : Pinned := { name := "ytdpbiegfljmhmaa", sum := "1af10edf12a35f4ddd000112da2d035b70e81cf580c24ef37faf90244bda97e9", checked := Try.checked }
namespace Rows
def none {H : Type} : Left H := { results := [], args := [] }

/-- 'fringelaw30.SmithForms': WHATEVER THE INPUT: true; the input reads as it did. -/
def smithFormsSpec : ChangeSpec := { name := "smithForms", fn := fun _ => fun
  | [d] => { results := [.lit (.bool true)], args := [d] }
  | _ => none }
def smithFormsRow : OpenClaim := { program := "ytdpbiegfljmhmaa", sum := "1af10edf12a35f4ddd000112da2d035b70e81cf580c24ef37faf90244bda97e9", func := "fringe/fringelaw30.SmithForms", spec := "smithForms", inPlace := ["slices.overlaps[[]int]"], unfollowed := true, recurses := true, apart := false }
def SmithFormsSaid : Prop := smithFormsRow.holds Try.pinned (OpenSpec.ofChange smithFormsSpec)

/-- ITS FALSE NEIGHBOUR: 'it returns false'. Refute it at one input. -/
def smithFormsWrong : ChangeSpec := { name := "smithForms", fn := fun _ => fun
  | [d] => { results := [.lit (.bool false)], args := [d] }
  | _ => none }
def SmithFormsWrongFalsely : Prop := smithFormsRow.holds Try.pinned (OpenSpec.ofChange smithFormsWrong)

/-- 'fringelaw30.SmithRelations': WHATEVER THE INPUT: true; the input reads as it did. -/
def smithRelationsSpec : ChangeSpec := { name := "smithRelations", fn := fun _ => fun
  | [d] => { results := [.lit (.bool true)], args := [d] }
  | _ => none }
def smithRelationsRow : OpenClaim := { program := "ytdpbiegfljmhmaa", sum := "1af10edf12a35f4ddd000112da2d035b70e81cf580c24ef37faf90244bda97e9", func := "fringe/fringelaw30.SmithRelations", spec := "smithRelations", inPlace := ["slices.overlaps[[]int]"], unfollowed := true, recurses := true, apart := false }
def SmithRelationsSaid : Prop := smithRelationsRow.holds Try.pinned (OpenSpec.ofChange smithRelationsSpec)

/-- ITS FALSE NEIGHBOUR: 'it returns false'. Refute it at one input. -/
def smithRelationsWrong : ChangeSpec := { name := "smithRelations", fn := fun _ => fun
  | [d] => { results := [.lit (.bool false)], args := [d] }
  | _ => none }
def SmithRelationsWrongFalsely : Prop := smithRelationsRow.holds Try.pinned (OpenSpec.ofChange smithRelationsWrong)

/-- 'fringelaw30.SmithRows': WHATEVER THE INPUT: true; the input reads as it did. -/
def smithRowsSpec : ChangeSpec := { name := "smithRows", fn := fun _ => fun
  | [d1, d2, d3] => { results := [.lit (.bool true)], args := [d1, d2, d3] }
  | _ => none }
def smithRowsRow : OpenClaim := { program := "ytdpbiegfljmhmaa", sum := "1af10edf12a35f4ddd000112da2d035b70e81cf580c24ef37faf90244bda97e9", func := "fringe/fringelaw30.SmithRows", spec := "smithRows", inPlace := ["slices.overlaps[[]int]"], unfollowed := true, recurses := true, apart := false }
def SmithRowsSaid : Prop := smithRowsRow.holds Try.pinned (OpenSpec.ofChange smithRowsSpec)

/-- ITS FALSE NEIGHBOUR: 'it returns false'. Refute it at one input. -/
def smithRowsWrong : ChangeSpec := { name := "smithRows", fn := fun _ => fun
  | [d1, d2, d3] => { results := [.lit (.bool false)], args := [d1, d2, d3] }
  | _ => none }
def SmithRowsWrongFalsely : Prop := smithRowsRow.holds Try.pinned (OpenSpec.ofChange smithRowsWrong)

/-- 'fringelaw30.SmithNames': WHATEVER THE INPUT: true; the input reads as it did. -/
def smithNamesSpec : ChangeSpec := { name := "smithNames", fn := fun _ => fun
  | [] => { results := [.lit (.bool true)], args := [] }
  | _ => none }
def smithNamesRow : OpenClaim := { program := "ytdpbiegfljmhmaa", sum := "1af10edf12a35f4ddd000112da2d035b70e81cf580c24ef37faf90244bda97e9", func := "fringe/fringelaw30.SmithNames", spec := "smithNames", inPlace := ["slices.overlaps[[]int]", "math/bits.Add64", "math/bits.Sub64"], unfollowed := true, recurses := true, named := ["math/bits.divideError", "math/bits.overflowError"], apart := false }
def SmithNamesSaid : Prop := smithNamesRow.holds Try.pinned (OpenSpec.ofChange smithNamesSpec)

/-- ITS FALSE NEIGHBOUR: 'it returns false'. Refute it at one input. -/
def smithNamesWrong : ChangeSpec := { name := "smithNames", fn := fun _ => fun
  | [] => { results := [.lit (.bool false)], args := [] }
  | _ => none }
def SmithNamesWrongFalsely : Prop := smithNamesRow.holds Try.pinned (OpenSpec.ofChange smithNamesWrong)

/- THE SECOND FORM. 'bulk': how many values and letters a reading holds, each counted each time it is reached (what is shared counts as often as it is met; a slice's spare places count too). A statement '..UptoSaid' is the law's where the arguments, and the package variables that the reading takes, are together of bulk at most 1048576: NARROWER than '..Said'. Prove '..Said' where nothing that the law and all that it calls make is longer than what came in: it says more and counts as full. Else prove '..UptoSaid'. A law counts once. -/
mutual
def uptoBulk {H : Type} : DataW H → Nat
  | .lit (.string bytes) => bytes.length + 1
  | .lit _ => 1
  | .nil => 1
  | .ptr d => uptoBulk d + 1
  | .slice elems spare => uptoBulkAll elems + uptoBulkAll spare + 1
  | .agg parts => uptoBulkAll parts + 1
  | .iface _ d => uptoBulk d + 1
  | .map entries => uptoBulkEntries entries + 1
  | .held _ => 1
def uptoBulkAll {H : Type} : List (DataW H) → Nat
  | [] => 0
  | d :: r => uptoBulk d + uptoBulkAll r
def uptoBulkEntries {H : Type} : List (Lit × DataW H) → Nat
  | [] => 0
  | x :: r => uptoBulkEntry x + uptoBulkEntries r
def uptoBulkEntry {H : Type} : Lit × DataW H → Nat
  | (.string bytes, d) => bytes.length + uptoBulk d + 1
  | (_, d) => uptoBulk d + 1
 end
def uptoSmall : (H : Type) → List (DataW H) → Bool := fun _ ds => decide (uptoBulkAll ds ≤ 1048576)
def OpenSpec.upto (s : _root_.Go.ChangeSpec) : _root_.Go.OpenSpec := { _root_.Go.OpenSpec.ofChange s with cond := some uptoSmall }

/-- 'fringelaw30.SmithForms', WHERE WHAT IT READS IS OF BULK AT MOST 1048576: true; the input reads as it did. -/
def smithFormsUptoRow : OpenClaim := { program := "ytdpbiegfljmhmaa", sum := "1af10edf12a35f4ddd000112da2d035b70e81cf580c24ef37faf90244bda97e9", func := "fringe/fringelaw30.SmithForms", spec := "smithForms", inPlace := ["slices.overlaps[[]int]"], unfollowed := true, recurses := true, apart := false, narrowed := true }
def SmithFormsUptoSaid : Prop := smithFormsUptoRow.holds Try.pinned (OpenSpec.upto smithFormsSpec)

/-- 'fringelaw30.SmithRelations', WHERE WHAT IT READS IS OF BULK AT MOST 1048576: true; the input reads as it did. -/
def smithRelationsUptoRow : OpenClaim := { program := "ytdpbiegfljmhmaa", sum := "1af10edf12a35f4ddd000112da2d035b70e81cf580c24ef37faf90244bda97e9", func := "fringe/fringelaw30.SmithRelations", spec := "smithRelations", inPlace := ["slices.overlaps[[]int]"], unfollowed := true, recurses := true, apart := false, narrowed := true }
def SmithRelationsUptoSaid : Prop := smithRelationsUptoRow.holds Try.pinned (OpenSpec.upto smithRelationsSpec)

/-- 'fringelaw30.SmithRows', WHERE WHAT IT READS IS OF BULK AT MOST 1048576: true; the input reads as it did. -/
def smithRowsUptoRow : OpenClaim := { program := "ytdpbiegfljmhmaa", sum := "1af10edf12a35f4ddd000112da2d035b70e81cf580c24ef37faf90244bda97e9", func := "fringe/fringelaw30.SmithRows", spec := "smithRows", inPlace := ["slices.overlaps[[]int]"], unfollowed := true, recurses := true, apart := false, narrowed := true }
def SmithRowsUptoSaid : Prop := smithRowsUptoRow.holds Try.pinned (OpenSpec.upto smithRowsSpec)

/-- 'fringelaw30.SmithNames', WHERE WHAT IT READS IS OF BULK AT MOST 1048576: true; the input reads as it did. -/
def smithNamesUptoRow : OpenClaim := { program := "ytdpbiegfljmhmaa", sum := "1af10edf12a35f4ddd000112da2d035b70e81cf580c24ef37faf90244bda97e9", func := "fringe/fringelaw30.SmithNames", spec := "smithNames", inPlace := ["slices.overlaps[[]int]", "math/bits.Add64", "math/bits.Sub64"], unfollowed := true, recurses := true, named := ["math/bits.divideError", "math/bits.overflowError"], apart := false, narrowed := true }
def SmithNamesUptoSaid : Prop := smithNamesUptoRow.holds Try.pinned (OpenSpec.upto smithNamesSpec)

end Rows
end Go.Proofs.Ytdpbiegfljmhmaa
