import Derived.Test.YtkbgkjlgnmlghaaCellsNamesCut
import Derived.Test.YtkbgkjlgnmlghaaCellsNamesS1
namespace Go.Proofs.Ytkbgkjlgnmlghaa
open Go Go.Sim
set_option maxRecDepth 100000
set_option maxHeartbeats 4000000
namespace cellsNamesCut
theorem run0 : (ex 20000).run 7 Try.f7.ntmps (firstK 9 c0) st0 = some (.normal, st1) := by kernel_rfl
theorem spine0 : spine 9 c0 = true := by kernel_rfl
end cellsNamesCut
end Go.Proofs.Ytkbgkjlgnmlghaa
