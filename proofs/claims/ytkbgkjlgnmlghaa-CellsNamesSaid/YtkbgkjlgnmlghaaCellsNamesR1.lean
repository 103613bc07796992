import Derived.Test.YtkbgkjlgnmlghaaCellsNamesS1
import Derived.Test.YtkbgkjlgnmlghaaCellsNamesS2
namespace Go.Proofs.Ytkbgkjlgnmlghaa
open Go Go.Sim
set_option maxRecDepth 100000
set_option maxHeartbeats 4000000
namespace cellsNamesCut
theorem run1 : (ex 19991).run 7 Try.f7.ntmps (firstK 3 c1) st1 = some (.normal, st2) := by kernel_rfl
theorem spine1 : spine 3 c1 = true := by kernel_rfl
end cellsNamesCut
end Go.Proofs.Ytkbgkjlgnmlghaa
