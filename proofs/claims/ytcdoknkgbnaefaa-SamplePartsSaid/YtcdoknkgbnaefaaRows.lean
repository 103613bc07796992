/-
  No cell of these rows narrows 'for every input' (looked for: loops, veiled, ifaces, maps, wideKeys, modest, calm, conditions, laid).
  DERIVED. THE GIVEN ROWS OF THIS SEAT. 7 by the template 'for every input the law returns true; each argument reads behind the call as it read before'; 0 by the template 'total and deterministic' (their statements: YtcdoknkgbnaefaaTotals.lean).
  GIVEN WITH THE SEED: the statements are not yours to turn. If you find one false, say at which input.
  Laid BY PROGRAM, IN A SANDBOX (cutbox-rows.mjs): the forced cells as the released guide's own fill.sh prints them over the translation f5152a76910de90f… (all of the seat's roots in one cut). By AI agents, Wed Nov 11 2026. No macro, syntax, notation, axiom, sorry.
-/
import Derived.Test.YtcdoknkgbnaefaaChecked
import GoSem.Claim
import GoSem.ClaimJoined
import GoSem.ClaimMapViews
import Derived.JoinedTies
import Derived.KernelRfl
namespace Go.Proofs.Ytcdoknkgbnaefaa
/- THE CELL 'sum', in the pinned program and in every row, IS THE sha256 OF THE DUMP (.gsa) THAT YtcdoknkgbnaefaaProg.lean LOADS. Nothing in Lean hashes anything: it is a label: what it is worth is what the hold of that sum in a sandbox is worth. -/
noncomputable def Try.pinned : Pinned := { name := "ytcdoknkgbnaefaa", sum := "f5152a76910de90f48e1264dc2b9ec135e50a50e6279fd22134c20b11008565b", checked := Try.checked }
namespace Rows
def none {H : Type} : Left H := { results := [], args := [] }

/-- 'fringelaw13.SamplePacks': WHATEVER THE INPUT: true; the input reads as it did. -/
def samplePacksSpec : ChangeSpec := { name := "samplePacks", fn := fun _ => fun
  | [d1, d2, d3] => { results := [.lit (.bool true)], args := [d1, d2, d3] }
  | _ => none }
def samplePacksRow : OpenClaim := { program := "ytcdoknkgbnaefaa", sum := "f5152a76910de90f48e1264dc2b9ec135e50a50e6279fd22134c20b11008565b", func := "fringe/fringelaw13.SamplePacks", spec := "samplePacks", apart := false }
def SamplePacksSaid : Prop := samplePacksRow.holds Try.pinned (OpenSpec.ofChange samplePacksSpec)

/-- ITS FALSE NEIGHBOUR: 'it returns false'. Refute it at one input. -/
def samplePacksWrong : ChangeSpec := { name := "samplePacks", fn := fun _ => fun
  | [d1, d2, d3] => { results := [.lit (.bool false)], args := [d1, d2, d3] }
  | _ => none }
def SamplePacksWrongFalsely : Prop := samplePacksRow.holds Try.pinned (OpenSpec.ofChange samplePacksWrong)

/-- 'fringelaw13.SampleTells': WHATEVER THE INPUT: true; the input reads as it did. -/
def sampleTellsSpec : ChangeSpec := { name := "sampleTells", fn := fun _ => fun
  | [d] => { results := [.lit (.bool true)], args := [d] }
  | _ => none }
def sampleTellsRow : OpenClaim := { program := "ytcdoknkgbnaefaa", sum := "f5152a76910de90f48e1264dc2b9ec135e50a50e6279fd22134c20b11008565b", func := "fringe/fringelaw13.SampleTells", spec := "sampleTells", apart := false }
def SampleTellsSaid : Prop := sampleTellsRow.holds Try.pinned (OpenSpec.ofChange sampleTellsSpec)

/-- ITS FALSE NEIGHBOUR: 'it returns false'. Refute it at one input. -/
def sampleTellsWrong : ChangeSpec := { name := "sampleTells", fn := fun _ => fun
  | [d] => { results := [.lit (.bool false)], args := [d] }
  | _ => none }
def SampleTellsWrongFalsely : Prop := sampleTellsRow.holds Try.pinned (OpenSpec.ofChange sampleTellsWrong)

/-- 'fringelaw13.SampleTakes': WHATEVER THE INPUT: true; the input reads as it did. -/
def sampleTakesSpec : ChangeSpec := { name := "sampleTakes", fn := fun _ => fun
  | [d1, d2, d3] => { results := [.lit (.bool true)], args := [d1, d2, d3] }
  | _ => none }
def sampleTakesRow : OpenClaim := { program := "ytcdoknkgbnaefaa", sum := "f5152a76910de90f48e1264dc2b9ec135e50a50e6279fd22134c20b11008565b", func := "fringe/fringelaw13.SampleTakes", spec := "sampleTakes", recurses := true, apart := false }
def SampleTakesSaid : Prop := sampleTakesRow.holds Try.pinned (OpenSpec.ofChange sampleTakesSpec)

/-- ITS FALSE NEIGHBOUR: 'it returns false'. Refute it at one input. -/
def sampleTakesWrong : ChangeSpec := { name := "sampleTakes", fn := fun _ => fun
  | [d1, d2, d3] => { results := [.lit (.bool false)], args := [d1, d2, d3] }
  | _ => none }
def SampleTakesWrongFalsely : Prop := sampleTakesRow.holds Try.pinned (OpenSpec.ofChange sampleTakesWrong)

/-- 'fringelaw13.SampleParts': WHATEVER THE INPUT: true; the input reads as it did. -/
def samplePartsSpec : ChangeSpec := { name := "sampleParts", fn := fun _ => fun
  | [d1, d2] => { results := [.lit (.bool true)], args := [d1, d2] }
  | _ => none }
def samplePartsRow : OpenClaim := { program := "ytcdoknkgbnaefaa", sum := "f5152a76910de90f48e1264dc2b9ec135e50a50e6279fd22134c20b11008565b", func := "fringe/fringelaw13.SampleParts", spec := "sampleParts", recurses := true, apart := false }
def SamplePartsSaid : Prop := samplePartsRow.holds Try.pinned (OpenSpec.ofChange samplePartsSpec)

/-- ITS FALSE NEIGHBOUR: 'it returns false'. Refute it at one input. -/
def samplePartsWrong : ChangeSpec := { name := "sampleParts", fn := fun _ => fun
  | [d1, d2] => { results := [.lit (.bool false)], args := [d1, d2] }
  | _ => none }
def SamplePartsWrongFalsely : Prop := samplePartsRow.holds Try.pinned (OpenSpec.ofChange samplePartsWrong)

/-- 'fringelaw13.SampleOrder': WHATEVER THE INPUT: true; the input reads as it did. -/
def sampleOrderSpec : ChangeSpec := { name := "sampleOrder", fn := fun _ => fun
  | [d1, d2, d3] => { results := [.lit (.bool true)], args := [d1, d2, d3] }
  | _ => none }
def sampleOrderRow : OpenClaim := { program := "ytcdoknkgbnaefaa", sum := "f5152a76910de90f48e1264dc2b9ec135e50a50e6279fd22134c20b11008565b", func := "fringe/fringelaw13.SampleOrder", spec := "sampleOrder", recurses := true, apart := false }
def SampleOrderSaid : Prop := sampleOrderRow.holds Try.pinned (OpenSpec.ofChange sampleOrderSpec)

/-- ITS FALSE NEIGHBOUR: 'it returns false'. Refute it at one input. -/
def sampleOrderWrong : ChangeSpec := { name := "sampleOrder", fn := fun _ => fun
  | [d1, d2, d3] => { results := [.lit (.bool false)], args := [d1, d2, d3] }
  | _ => none }
def SampleOrderWrongFalsely : Prop := sampleOrderRow.holds Try.pinned (OpenSpec.ofChange sampleOrderWrong)

/-- 'fringelaw13.SampleBack': WHATEVER THE INPUT: true; the input reads as it did. -/
def sampleBackSpec : ChangeSpec := { name := "sampleBack", fn := fun _ => fun
  | [d1, d2, d3] => { results := [.lit (.bool true)], args := [d1, d2, d3] }
  | _ => none }
def sampleBackRow : OpenClaim := { program := "ytcdoknkgbnaefaa", sum := "f5152a76910de90f48e1264dc2b9ec135e50a50e6279fd22134c20b11008565b", func := "fringe/fringelaw13.SampleBack", spec := "sampleBack", recurses := true, apart := false }
def SampleBackSaid : Prop := sampleBackRow.holds Try.pinned (OpenSpec.ofChange sampleBackSpec)

/-- ITS FALSE NEIGHBOUR: 'it returns false'. Refute it at one input. -/
def sampleBackWrong : ChangeSpec := { name := "sampleBack", fn := fun _ => fun
  | [d1, d2, d3] => { results := [.lit (.bool false)], args := [d1, d2, d3] }
  | _ => none }
def SampleBackWrongFalsely : Prop := sampleBackRow.holds Try.pinned (OpenSpec.ofChange sampleBackWrong)

/-- 'fringelaw13.SampleNames': WHATEVER THE INPUT: true; the input reads as it did. -/
def sampleNamesSpec : ChangeSpec := { name := "sampleNames", fn := fun _ => fun
  | [] => { results := [.lit (.bool true)], args := [] }
  | _ => none }
def sampleNamesRow : OpenClaim := { program := "ytcdoknkgbnaefaa", sum := "f5152a76910de90f48e1264dc2b9ec135e50a50e6279fd22134c20b11008565b", func := "fringe/fringelaw13.SampleNames", spec := "sampleNames", recurses := true, apart := false }
def SampleNamesSaid : Prop := sampleNamesRow.holds Try.pinned (OpenSpec.ofChange sampleNamesSpec)

/-- ITS FALSE NEIGHBOUR: 'it returns false'. Refute it at one input. -/
def sampleNamesWrong : ChangeSpec := { name := "sampleNames", fn := fun _ => fun
  | [] => { results := [.lit (.bool false)], args := [] }
  | _ => none }
def SampleNamesWrongFalsely : Prop := sampleNamesRow.holds Try.pinned (OpenSpec.ofChange sampleNamesWrong)

/- THE SECOND FORM. 'bulk': how many values and letters a reading holds, each counted each time it is reached (what is shared counts as often as it is met; a slice's spare places count too). A statement '..UptoSaid' is the law's where the arguments, and the package variables that the reading takes, are together of bulk at most 1048576: NARROWER than '..Said'. Prove '..Said' where nothing that the law and all that it calls make is longer than what came in: it says more and counts as full. Else prove '..UptoSaid'. A law counts once. -/
mutual
def uptoBulk {H : Type} : DataW H → Nat
  | .lit (.string bytes) => bytes.length + 1
  | .lit _ => 1
  | .nil => 1
  | .ptr d => uptoBulk d + 1
  | .slice elems spare => uptoBulkAll elems + uptoBulkAll spare + 1
  | .agg parts => uptoBulkAll parts + 1
  | .iface _ d => uptoBulk d + 1
  | .map entries => uptoBulkEntries entries + 1
  | .held _ => 1
def uptoBulkAll {H : Type} : List (DataW H) → Nat
  | [] => 0
  | d :: r => uptoBulk d + uptoBulkAll r
def uptoBulkEntries {H : Type} : List (Lit × DataW H) → Nat
  | [] => 0
  | x :: r => uptoBulkEntry x + uptoBulkEntries r
def uptoBulkEntry {H : Type} : Lit × DataW H → Nat
  | (.string bytes, d) => bytes.length + uptoBulk d + 1
  | (_, d) => uptoBulk d + 1
 end
def uptoSmall : (H : Type) → List (DataW H) → Bool := fun _ ds => decide (uptoBulkAll ds ≤ 1048576)
def OpenSpec.upto (s : _root_.Go.ChangeSpec) : _root_.Go.OpenSpec := { _root_.Go.OpenSpec.ofChange s with cond := some uptoSmall }

/-- 'fringelaw13.SamplePacks', WHERE WHAT IT READS IS OF BULK AT MOST 1048576: true; the input reads as it did. -/
def samplePacksUptoRow : OpenClaim := { program := "ytcdoknkgbnaefaa", sum := "f5152a76910de90f48e1264dc2b9ec135e50a50e6279fd22134c20b11008565b", func := "fringe/fringelaw13.SamplePacks", spec := "samplePacks", apart := false, narrowed := true }
def SamplePacksUptoSaid : Prop := samplePacksUptoRow.holds Try.pinned (OpenSpec.upto samplePacksSpec)

/-- 'fringelaw13.SampleTells', WHERE WHAT IT READS IS OF BULK AT MOST 1048576: true; the input reads as it did. -/
def sampleTellsUptoRow : OpenClaim := { program := "ytcdoknkgbnaefaa", sum := "f5152a76910de90f48e1264dc2b9ec135e50a50e6279fd22134c20b11008565b", func := "fringe/fringelaw13.SampleTells", spec := "sampleTells", apart := false, narrowed := true }
def SampleTellsUptoSaid : Prop := sampleTellsUptoRow.holds Try.pinned (OpenSpec.upto sampleTellsSpec)

/-- 'fringelaw13.SampleTakes', WHERE WHAT IT READS IS OF BULK AT MOST 1048576: true; the input reads as it did. -/
def sampleTakesUptoRow : OpenClaim := { program := "ytcdoknkgbnaefaa", sum := "f5152a76910de90f48e1264dc2b9ec135e50a50e6279fd22134c20b11008565b", func := "fringe/fringelaw13.SampleTakes", spec := "sampleTakes", recurses := true, apart := false, narrowed := true }
def SampleTakesUptoSaid : Prop := sampleTakesUptoRow.holds Try.pinned (OpenSpec.upto sampleTakesSpec)

/-- 'fringelaw13.SampleParts', WHERE WHAT IT READS IS OF BULK AT MOST 1048576: true; the input reads as it did. -/
def samplePartsUptoRow : OpenClaim := { program := "ytcdoknkgbnaefaa", sum := "f5152a76910de90f48e1264dc2b9ec135e50a50e6279fd22134c20b11008565b", func := "fringe/fringelaw13.SampleParts", spec := "sampleParts", recurses := true, apart := false, narrowed := true }
def SamplePartsUptoSaid : Prop := samplePartsUptoRow.holds Try.pinned (OpenSpec.upto samplePartsSpec)

/-- 'fringelaw13.SampleOrder', WHERE WHAT IT READS IS OF BULK AT MOST 1048576: true; the input reads as it did. -/
def sampleOrderUptoRow : OpenClaim := { program := "ytcdoknkgbnaefaa", sum := "f5152a76910de90f48e1264dc2b9ec135e50a50e6279fd22134c20b11008565b", func := "fringe/fringelaw13.SampleOrder", spec := "sampleOrder", recurses := true, apart := false, narrowed := true }
def SampleOrderUptoSaid : Prop := sampleOrderUptoRow.holds Try.pinned (OpenSpec.upto sampleOrderSpec)

/-- 'fringelaw13.SampleBack', WHERE WHAT IT READS IS OF BULK AT MOST 1048576: true; the input reads as it did. -/
def sampleBackUptoRow : OpenClaim := { program := "ytcdoknkgbnaefaa", sum := "f5152a76910de90f48e1264dc2b9ec135e50a50e6279fd22134c20b11008565b", func := "fringe/fringelaw13.SampleBack", spec := "sampleBack", recurses := true, apart := false, narrowed := true }
def SampleBackUptoSaid : Prop := sampleBackUptoRow.holds Try.pinned (OpenSpec.upto sampleBackSpec)

/-- 'fringelaw13.SampleNames', WHERE WHAT IT READS IS OF BULK AT MOST 1048576: true; the input reads as it did. -/
def sampleNamesUptoRow : OpenClaim := { program := "ytcdoknkgbnaefaa", sum := "f5152a76910de90f48e1264dc2b9ec135e50a50e6279fd22134c20b11008565b", func := "fringe/fringelaw13.SampleNames", spec := "sampleNames", recurses := true, apart := false, narrowed := true }
def SampleNamesUptoSaid : Prop := sampleNamesUptoRow.holds Try.pinned (OpenSpec.upto sampleNamesSpec)

end Rows
end Go.Proofs.Ytcdoknkgbnaefaa
