/-
  No cell of these rows narrows 'for every input' (looked for: loops, veiled, ifaces, maps, wideKeys, modest, calm, conditions, laid).
  DERIVED. THE GIVEN ROWS OF THIS SEAT. 6 by the template 'for every input the law returns true; each argument reads behind the call as it read before'; 0 by the template 'total and deterministic' (their statements: YtnokkniofajnhaaTotals.lean).
  GIVEN WITH THE SEED: the statements are not yours to turn. If you find one false, say at which input.
  Laid BY PROGRAM, IN A SANDBOX (cutbox-rows.mjs): the forced cells as the released guide's own fill.sh prints them over the translation 6c0d0f8944a00b56… (all of the seat's roots in one cut). By AI agents, Wed Nov 11 2026. No macro, syntax, notation, axiom, sorry.
-/
import Derived.Test.YtnokkniofajnhaaChecked
import GoSem.Claim
import GoSem.ClaimJoined
import GoSem.ClaimMapViews
import Derived.JoinedTies
import Derived.KernelRfl
namespace Go.Proofs.Ytnokkniofajnhaa
/- THE CELL 'sum', in the pinned program and in every row, IS THE sha256 OF THE DUMP (.gsa) THAT YtnokkniofajnhaaProg.lean LOADS. Nothing in Lean hashes anything: it is a label: what it is worth is what the hold of that sum in a sandbox is worth. -/
noncomputable def Try.pinned : Pinned := { name := "ytnokkniofajnhaa", sum := "6c0d0f8944a00b56de97cfadd6ce15956bcddcc1b1ba60e76550c75bb1cfc2f5", checked := Try.checked }
namespace Rows
def none {H : Type} : Left H := { results := [], args := [] }

/-- 'fringelaw23.QuantValues': WHATEVER THE INPUT: true; the input reads as it did. -/
def quantValuesSpec : ChangeSpec := { name := "quantValues", fn := fun _ => fun
  | [d1, d2] => { results := [.lit (.bool true)], args := [d1, d2] }
  | _ => none }
def quantValuesRow : OpenClaim := { program := "ytnokkniofajnhaa", sum := "6c0d0f8944a00b56de97cfadd6ce15956bcddcc1b1ba60e76550c75bb1cfc2f5", func := "fringe/fringelaw23.QuantValues", spec := "quantValues", inPlace := ["math/bits.Add64", "math/bits.Sub64"], named := ["math/bits.divideError", "math/bits.overflowError"], apart := false }
def QuantValuesSaid : Prop := quantValuesRow.holds Try.pinned (OpenSpec.ofChange quantValuesSpec)

/-- ITS FALSE NEIGHBOUR: 'it returns false'. Refute it at one input. -/
def quantValuesWrong : ChangeSpec := { name := "quantValues", fn := fun _ => fun
  | [d1, d2] => { results := [.lit (.bool false)], args := [d1, d2] }
  | _ => none }
def QuantValuesWrongFalsely : Prop := quantValuesRow.holds Try.pinned (OpenSpec.ofChange quantValuesWrong)

/-- 'fringelaw23.QuantComposes': WHATEVER THE INPUT: true; the input reads as it did. -/
def quantComposesSpec : ChangeSpec := { name := "quantComposes", fn := fun _ => fun
  | [d1, d2, d3, d4, d5] => { results := [.lit (.bool true)], args := [d1, d2, d3, d4, d5] }
  | _ => none }
def quantComposesRow : OpenClaim := { program := "ytnokkniofajnhaa", sum := "6c0d0f8944a00b56de97cfadd6ce15956bcddcc1b1ba60e76550c75bb1cfc2f5", func := "fringe/fringelaw23.QuantComposes", spec := "quantComposes", inPlace := ["math/bits.Add64", "math/bits.Sub64"], unfollowed := true, recurses := true, named := ["math/bits.divideError", "math/bits.overflowError"], apart := false }
def QuantComposesSaid : Prop := quantComposesRow.holds Try.pinned (OpenSpec.ofChange quantComposesSpec)

/-- ITS FALSE NEIGHBOUR: 'it returns false'. Refute it at one input. -/
def quantComposesWrong : ChangeSpec := { name := "quantComposes", fn := fun _ => fun
  | [d1, d2, d3, d4, d5] => { results := [.lit (.bool false)], args := [d1, d2, d3, d4, d5] }
  | _ => none }
def QuantComposesWrongFalsely : Prop := quantComposesRow.holds Try.pinned (OpenSpec.ofChange quantComposesWrong)

/-- 'fringelaw23.QuantNames': WHATEVER THE INPUT: true; the input reads as it did. -/
def quantNamesSpec : ChangeSpec := { name := "quantNames", fn := fun _ => fun
  | [] => { results := [.lit (.bool true)], args := [] }
  | _ => none }
def quantNamesRow : OpenClaim := { program := "ytnokkniofajnhaa", sum := "6c0d0f8944a00b56de97cfadd6ce15956bcddcc1b1ba60e76550c75bb1cfc2f5", func := "fringe/fringelaw23.QuantNames", spec := "quantNames", inPlace := ["math/bits.Add64", "math/bits.Sub64"], unfollowed := true, recurses := true, named := ["math/bits.divideError", "math/bits.overflowError"], apart := false }
def QuantNamesSaid : Prop := quantNamesRow.holds Try.pinned (OpenSpec.ofChange quantNamesSpec)

/-- ITS FALSE NEIGHBOUR: 'it returns false'. Refute it at one input. -/
def quantNamesWrong : ChangeSpec := { name := "quantNames", fn := fun _ => fun
  | [] => { results := [.lit (.bool false)], args := [] }
  | _ => none }
def QuantNamesWrongFalsely : Prop := quantNamesRow.holds Try.pinned (OpenSpec.ofChange quantNamesWrong)

/-- 'fringelaw23.QuantMonotone': WHATEVER THE INPUT: true; the input reads as it did. -/
def quantMonotoneSpec : ChangeSpec := { name := "quantMonotone", fn := fun _ => fun
  | [d1, d2, d3] => { results := [.lit (.bool true)], args := [d1, d2, d3] }
  | _ => none }
def quantMonotoneRow : OpenClaim := { program := "ytnokkniofajnhaa", sum := "6c0d0f8944a00b56de97cfadd6ce15956bcddcc1b1ba60e76550c75bb1cfc2f5", func := "fringe/fringelaw23.QuantMonotone", spec := "quantMonotone", inPlace := ["math/bits.Add64", "math/bits.Sub64"], unfollowed := true, recurses := true, named := ["math/bits.divideError", "math/bits.overflowError"], apart := false }
def QuantMonotoneSaid : Prop := quantMonotoneRow.holds Try.pinned (OpenSpec.ofChange quantMonotoneSpec)

/-- ITS FALSE NEIGHBOUR: 'it returns false'. Refute it at one input. -/
def quantMonotoneWrong : ChangeSpec := { name := "quantMonotone", fn := fun _ => fun
  | [d1, d2, d3] => { results := [.lit (.bool false)], args := [d1, d2, d3] }
  | _ => none }
def QuantMonotoneWrongFalsely : Prop := quantMonotoneRow.holds Try.pinned (OpenSpec.ofChange quantMonotoneWrong)

/-- 'fringelaw23.QuantThrough': WHATEVER THE INPUT: true; the input reads as it did. -/
def quantThroughSpec : ChangeSpec := { name := "quantThrough", fn := fun _ => fun
  | [d1, d2, d3] => { results := [.lit (.bool true)], args := [d1, d2, d3] }
  | _ => none }
def quantThroughRow : OpenClaim := { program := "ytnokkniofajnhaa", sum := "6c0d0f8944a00b56de97cfadd6ce15956bcddcc1b1ba60e76550c75bb1cfc2f5", func := "fringe/fringelaw23.QuantThrough", spec := "quantThrough", inPlace := ["math/bits.Add64", "math/bits.Sub64"], unfollowed := true, recurses := true, named := ["math/bits.divideError", "math/bits.overflowError"], apart := false }
def QuantThroughSaid : Prop := quantThroughRow.holds Try.pinned (OpenSpec.ofChange quantThroughSpec)

/-- ITS FALSE NEIGHBOUR: 'it returns false'. Refute it at one input. -/
def quantThroughWrong : ChangeSpec := { name := "quantThrough", fn := fun _ => fun
  | [d1, d2, d3] => { results := [.lit (.bool false)], args := [d1, d2, d3] }
  | _ => none }
def QuantThroughWrongFalsely : Prop := quantThroughRow.holds Try.pinned (OpenSpec.ofChange quantThroughWrong)

/-- 'fringelaw23.QuantPowers': WHATEVER THE INPUT: true; the input reads as it did. -/
def quantPowersSpec : ChangeSpec := { name := "quantPowers", fn := fun _ => fun
  | [d] => { results := [.lit (.bool true)], args := [d] }
  | _ => none }
def quantPowersRow : OpenClaim := { program := "ytnokkniofajnhaa", sum := "6c0d0f8944a00b56de97cfadd6ce15956bcddcc1b1ba60e76550c75bb1cfc2f5", func := "fringe/fringelaw23.QuantPowers", spec := "quantPowers", inPlace := ["math/bits.Add64", "math/bits.Sub64"], unfollowed := true, recurses := true, named := ["math/bits.divideError", "math/bits.overflowError"], apart := false }
def QuantPowersSaid : Prop := quantPowersRow.holds Try.pinned (OpenSpec.ofChange quantPowersSpec)

/-- ITS FALSE NEIGHBOUR: 'it returns false'. Refute it at one input. -/
def quantPowersWrong : ChangeSpec := { name := "quantPowers", fn := fun _ => fun
  | [d] => { results := [.lit (.bool false)], args := [d] }
  | _ => none }
def QuantPowersWrongFalsely : Prop := quantPowersRow.holds Try.pinned (OpenSpec.ofChange quantPowersWrong)

/- THE SECOND FORM. 'bulk': how many values and letters a reading holds, each counted each time it is reached (what is shared counts as often as it is met; a slice's spare places count too). A statement '..UptoSaid' is the law's where the arguments, and the package variables that the reading takes, are together of bulk at most 1048576: NARROWER than '..Said'. Prove '..Said' where nothing that the law and all that it calls make is longer than what came in: it says more and counts as full. Else prove '..UptoSaid'. A law counts once. -/
mutual
def uptoBulk {H : Type} : DataW H → Nat
  | .lit (.string bytes) => bytes.length + 1
  | .lit _ => 1
  | .nil => 1
  | .ptr d => uptoBulk d + 1
  | .slice elems spare => uptoBulkAll elems + uptoBulkAll spare + 1
  | .agg parts => uptoBulkAll parts + 1
  | .iface _ d => uptoBulk d + 1
  | .map entries => uptoBulkEntries entries + 1
  | .held _ => 1
def uptoBulkAll {H : Type} : List (DataW H) → Nat
  | [] => 0
  | d :: r => uptoBulk d + uptoBulkAll r
def uptoBulkEntries {H : Type} : List (Lit × DataW H) → Nat
  | [] => 0
  | x :: r => uptoBulkEntry x + uptoBulkEntries r
def uptoBulkEntry {H : Type} : Lit × DataW H → Nat
  | (.string bytes, d) => bytes.length + uptoBulk d + 1
  | (_, d) => uptoBulk d + 1
 end
def uptoSmall : (H : Type) → List (DataW H) → Bool := fun _ ds => decide (uptoBulkAll ds ≤ 1048576)
def OpenSpec.upto (s : _root_.Go.ChangeSpec) : _root_.Go.OpenSpec := { _root_.Go.OpenSpec.ofChange s with cond := some uptoSmall }

/-- 'fringelaw23.QuantValues', WHERE WHAT IT READS IS OF BULK AT MOST 1048576: true; the input reads as it did. -/
def quantValuesUptoRow : OpenClaim := { program := "ytnokkniofajnhaa", sum := "6c0d0f8944a00b56de97cfadd6ce15956bcddcc1b1ba60e76550c75bb1cfc2f5", func := "fringe/fringelaw23.QuantValues", spec := "quantValues", inPlace := ["math/bits.Add64", "math/bits.Sub64"], named := ["math/bits.divideError", "math/bits.overflowError"], apart := false, narrowed := true }
def QuantValuesUptoSaid : Prop := quantValuesUptoRow.holds Try.pinned (OpenSpec.upto quantValuesSpec)

/-- 'fringelaw23.QuantComposes', WHERE WHAT IT READS IS OF BULK AT MOST 1048576: true; the input reads as it did. -/
def quantComposesUptoRow : OpenClaim := { program := "ytnokkniofajnhaa", sum := "6c0d0f8944a00b56de97cfadd6ce15956bcddcc1b1ba60e76550c75bb1cfc2f5", func := "fringe/fringelaw23.QuantComposes", spec := "quantComposes", inPlace := ["math/bits.Add64", "math/bits.Sub64"], unfollowed := true, recurses := true, named := ["math/bits.divideError", "math/bits.overflowError"], apart := false, narrowed := true }
def QuantComposesUptoSaid : Prop := quantComposesUptoRow.holds Try.pinned (OpenSpec.upto quantComposesSpec)

/-- 'fringelaw23.QuantNames', WHERE WHAT IT READS IS OF BULK AT MOST 1048576: true; the input reads as it did. -/
def quantNamesUptoRow : OpenClaim := { program := "ytnokkniofajnhaa", sum := "6c0d0f8944a00b56de97cfadd6ce15956bcddcc1b1ba60e76550c75bb1cfc2f5", func := "fringe/fringelaw23.QuantNames", spec := "quantNames", inPlace := ["math/bits.Add64", "math/bits.Sub64"], unfollowed := true, recurses := true, named := ["math/bits.divideError", "math/bits.overflowError"], apart := false, narrowed := true }
def QuantNamesUptoSaid : Prop := quantNamesUptoRow.holds Try.pinned (OpenSpec.upto quantNamesSpec)

/-- 'fringelaw23.QuantMonotone', WHERE WHAT IT READS IS OF BULK AT MOST 1048576: true; the input reads as it did. -/
def quantMonotoneUptoRow : OpenClaim := { program := "ytnokkniofajnhaa", sum := "6c0d0f8944a00b56de97cfadd6ce15956bcddcc1b1ba60e76550c75bb1cfc2f5", func := "fringe/fringelaw23.QuantMonotone", spec := "quantMonotone", inPlace := ["math/bits.Add64", "math/bits.Sub64"], unfollowed := true, recurses := true, named := ["math/bits.divideError", "math/bits.overflowError"], apart := false, narrowed := true }
def QuantMonotoneUptoSaid : Prop := quantMonotoneUptoRow.holds Try.pinned (OpenSpec.upto quantMonotoneSpec)

/-- 'fringelaw23.QuantThrough', WHERE WHAT IT READS IS OF BULK AT MOST 1048576: true; the input reads as it did. -/
def quantThroughUptoRow : OpenClaim := { program := "ytnokkniofajnhaa", sum := "6c0d0f8944a00b56de97cfadd6ce15956bcddcc1b1ba60e76550c75bb1cfc2f5", func := "fringe/fringelaw23.QuantThrough", spec := "quantThrough", inPlace := ["math/bits.Add64", "math/bits.Sub64"], unfollowed := true, recurses := true, named := ["math/bits.divideError", "math/bits.overflowError"], apart := false, narrowed := true }
def QuantThroughUptoSaid : Prop := quantThroughUptoRow.holds Try.pinned (OpenSpec.upto quantThroughSpec)

/-- 'fringelaw23.QuantPowers', WHERE WHAT IT READS IS OF BULK AT MOST 1048576: true; the input reads as it did. -/
def quantPowersUptoRow : OpenClaim := { program := "ytnokkniofajnhaa", sum := "6c0d0f8944a00b56de97cfadd6ce15956bcddcc1b1ba60e76550c75bb1cfc2f5", func := "fringe/fringelaw23.QuantPowers", spec := "quantPowers", inPlace := ["math/bits.Add64", "math/bits.Sub64"], unfollowed := true, recurses := true, named := ["math/bits.divideError", "math/bits.overflowError"], apart := false, narrowed := true }
def QuantPowersUptoSaid : Prop := quantPowersUptoRow.holds Try.pinned (OpenSpec.upto quantPowersSpec)

end Rows
end Go.Proofs.Ytnokkniofajnhaa
