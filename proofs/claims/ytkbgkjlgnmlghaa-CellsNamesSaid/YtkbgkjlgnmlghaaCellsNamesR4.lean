import Derived.Test.YtkbgkjlgnmlghaaCellsNamesS4
import Derived.Test.YtkbgkjlgnmlghaaCellsNamesS5
namespace Go.Proofs.Ytkbgkjlgnmlghaa
open Go Go.Sim
set_option maxRecDepth 100000
set_option maxHeartbeats 4000000
namespace cellsNamesCut
theorem run4 : (ex 19976).run 7 Try.f7.ntmps (firstK 8 c4) st4 = some (.normal, st5) := by kernel_rfl
theorem spine4 : spine 8 c4 = true := by kernel_rfl
end cellsNamesCut
end Go.Proofs.Ytkbgkjlgnmlghaa
