/-
  No cell of these rows narrows 'for every input' (looked for: loops, veiled, ifaces, maps, wideKeys, modest, calm, conditions, laid).
  DERIVED. THE GIVEN ROWS OF THIS SEAT. 2 by the template 'for every input the law returns true; each argument reads behind the call as it read before'; 0 by the template 'total and deterministic' (their statements: YtdpbiegfljmhmaaGreatTotals.lean).
  GIVEN WITH THE SEED: the statements are not yours to turn. If you find one false, say at which input.
  Laid BY PROGRAM, IN A SANDBOX (cutbox-rows.mjs): the forced cells as the released guide's own fill.sh prints them over the translation 8fc704eeb04550b7… (all of the seat's roots in one cut). By AI agents, Wed Nov 11 2026. No macro, syntax, notation, axiom, sorry.
-/
import Derived.Test.YtdpbiegfljmhmaaGreatChecked
import GoSem.Claim
import GoSem.ClaimJoined
import GoSem.ClaimMapViews
import Derived.JoinedTies
import Derived.KernelRfl
namespace Go.Proofs.YtdpbiegfljmhmaaGreat
/- THE CELL 'sum', in the pinned program and in every row, IS THE sha256 OF THE DUMP (.gsa) THAT YtdpbiegfljmhmaaGreatProg.lean LOADS. Nothing in Lean hashes anything: it is a label: what it is worth is what the hold of that sum in a sandbox is worth. -/
noncomputable def Tryz.pinned : Pinned := { name := "ytdpbiegfljmhmaagreat", sum := "8fc704eeb04550b7d207510aa44a372cc4fa23de6635c2330380763d24a6a309", checked := Tryz.checked }
namespace Rows
def none {H : Type} : Left H := { results := [], args := [] }

/-- 'fringelaw30.SmithLists': WHATEVER THE INPUT: true; the input reads as it did. -/
def smithListsSpec : ChangeSpec := { name := "smithLists", fn := fun _ => fun
  | [d1, d2, d3] => { results := [.lit (.bool true)], args := [d1, d2, d3] }
  | _ => none }
def smithListsRow : OpenClaim := { program := "ytdpbiegfljmhmaagreat", sum := "8fc704eeb04550b7d207510aa44a372cc4fa23de6635c2330380763d24a6a309", func := "fringe/fringelaw30.SmithLists", spec := "smithLists", inPlace := ["slices.overlaps[[]int]", "math/bits.Add64", "math/bits.Sub64"], unfollowed := true, recurses := true, named := ["math/bits.divideError", "math/bits.overflowError"], apart := false }
def SmithListsSaid : Prop := smithListsRow.holds Tryz.pinned (OpenSpec.ofChange smithListsSpec)

/-- ITS FALSE NEIGHBOUR: 'it returns false'. Refute it at one input. -/
def smithListsWrong : ChangeSpec := { name := "smithLists", fn := fun _ => fun
  | [d1, d2, d3] => { results := [.lit (.bool false)], args := [d1, d2, d3] }
  | _ => none }
def SmithListsWrongFalsely : Prop := smithListsRow.holds Tryz.pinned (OpenSpec.ofChange smithListsWrong)

/-- 'fringelaw30.SmithMade': WHATEVER THE INPUT: true; the input reads as it did. -/
def smithMadeSpec : ChangeSpec := { name := "smithMade", fn := fun _ => fun
  | [d1, d2] => { results := [.lit (.bool true)], args := [d1, d2] }
  | _ => none }
def smithMadeRow : OpenClaim := { program := "ytdpbiegfljmhmaagreat", sum := "8fc704eeb04550b7d207510aa44a372cc4fa23de6635c2330380763d24a6a309", func := "fringe/fringelaw30.SmithMade", spec := "smithMade", inPlace := ["slices.overlaps[[]int]", "math/bits.Add64", "math/bits.Sub64"], unfollowed := true, recurses := true, named := ["math/bits.divideError", "math/bits.overflowError"], apart := false }
def SmithMadeSaid : Prop := smithMadeRow.holds Tryz.pinned (OpenSpec.ofChange smithMadeSpec)

/-- ITS FALSE NEIGHBOUR: 'it returns false'. Refute it at one input. -/
def smithMadeWrong : ChangeSpec := { name := "smithMade", fn := fun _ => fun
  | [d1, d2] => { results := [.lit (.bool false)], args := [d1, d2] }
  | _ => none }
def SmithMadeWrongFalsely : Prop := smithMadeRow.holds Tryz.pinned (OpenSpec.ofChange smithMadeWrong)

/- THE SECOND FORM. 'bulk': how many values and letters a reading holds, each counted each time it is reached (what is shared counts as often as it is met; a slice's spare places count too). A statement '..UptoSaid' is the law's where the arguments, and the package variables that the reading takes, are together of bulk at most 1048576: NARROWER than '..Said'. Prove '..Said' where nothing that the law and all that it calls make is longer than what came in: it says more and counts as full. Else prove '..UptoSaid'. A law counts once. -/
mutual
def uptoBulk {H : Type} : DataW H → Nat
  | .lit (.string bytes) => bytes.length + 1
  | .lit _ => 1
  | .nil => 1
  | .ptr d => uptoBulk d + 1
  | .slice elems spare => uptoBulkAll elems + uptoBulkAll spare + 1
  | .agg parts => uptoBulkAll parts + 1
  | .iface _ d => uptoBulk d + 1
  | .map entries => uptoBulkEntries entries + 1
  | .held _ => 1
def uptoBulkAll {H : Type} : List (DataW H) → Nat
  | [] => 0
  | d :: r => uptoBulk d + uptoBulkAll r
def uptoBulkEntries {H : Type} : List (Lit × DataW H) → Nat
  | [] => 0
  | x :: r => uptoBulkEntry x + uptoBulkEntries r
def uptoBulkEntry {H : Type} : Lit × DataW H → Nat
  | (.string bytes, d) => bytes.length + uptoBulk d + 1
  | (_, d) => uptoBulk d + 1
 end
def uptoSmall : (H : Type) → List (DataW H) → Bool := fun _ ds => decide (uptoBulkAll ds ≤ 1048576)
def OpenSpec.upto (s : _root_.Go.ChangeSpec) : _root_.Go.OpenSpec := { _root_.Go.OpenSpec.ofChange s with cond := some uptoSmall }

/-- 'fringelaw30.SmithLists', WHERE WHAT IT READS IS OF BULK AT MOST 1048576: true; the input reads as it did. -/
def smithListsUptoRow : OpenClaim := { program := "ytdpbiegfljmhmaagreat", sum := "8fc704eeb04550b7d207510aa44a372cc4fa23de6635c2330380763d24a6a309", func := "fringe/fringelaw30.SmithLists", spec := "smithLists", inPlace := ["slices.overlaps[[]int]", "math/bits.Add64", "math/bits.Sub64"], unfollowed := true, recurses := true, named := ["math/bits.divideError", "math/bits.overflowError"], apart := false, narrowed := true }
def SmithListsUptoSaid : Prop := smithListsUptoRow.holds Tryz.pinned (OpenSpec.upto smithListsSpec)

/-- 'fringelaw30.SmithMade', WHERE WHAT IT READS IS OF BULK AT MOST 1048576: true; the input reads as it did. -/
def smithMadeUptoRow : OpenClaim := { program := "ytdpbiegfljmhmaagreat", sum := "8fc704eeb04550b7d207510aa44a372cc4fa23de6635c2330380763d24a6a309", func := "fringe/fringelaw30.SmithMade", spec := "smithMade", inPlace := ["slices.overlaps[[]int]", "math/bits.Add64", "math/bits.Sub64"], unfollowed := true, recurses := true, named := ["math/bits.divideError", "math/bits.overflowError"], apart := false, narrowed := true }
def SmithMadeUptoSaid : Prop := smithMadeUptoRow.holds Tryz.pinned (OpenSpec.upto smithMadeSpec)

end Rows
end Go.Proofs.YtdpbiegfljmhmaaGreat
