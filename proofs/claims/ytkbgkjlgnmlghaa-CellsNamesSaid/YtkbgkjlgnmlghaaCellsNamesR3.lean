import Derived.Test.YtkbgkjlgnmlghaaCellsNamesS3
import Derived.Test.YtkbgkjlgnmlghaaCellsNamesS4
namespace Go.Proofs.Ytkbgkjlgnmlghaa
open Go Go.Sim
set_option maxRecDepth 100000
set_option maxHeartbeats 4000000
namespace cellsNamesCut
theorem run3 : (ex 19986).run 7 Try.f7.ntmps (firstK 10 c3) st3 = some (.normal, st4) := by kernel_rfl
theorem spine3 : spine 10 c3 = true := by kernel_rfl
end cellsNamesCut
end Go.Proofs.Ytkbgkjlgnmlghaa
