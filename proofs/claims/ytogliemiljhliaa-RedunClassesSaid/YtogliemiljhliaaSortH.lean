import Derived.Test.YtogliemiljhliaaSortP
set_option linter.unusedSimpArgs false
set_option linter.unusedVariables false
namespace Go.Proofs.Ytogliemiljhliaa
open Go.Sim
set_option linter.unusedVariables false
section
variable {α : Type} [Inhabited α] {le : α → α → Prop}
theorem SortedOn.one {L : List α} {a b : Int} (h : b ≤ a + 1) : SortedOn le L a b:=fun p q p0 pq q1 => by omega
end
end Go.Proofs.Ytogliemiljhliaa
