import Derived.Test.YtkbgkjlgnmlghaaCellsNamesS2
import Derived.Test.YtkbgkjlgnmlghaaCellsNamesS3
namespace Go.Proofs.Ytkbgkjlgnmlghaa
open Go Go.Sim
set_option maxRecDepth 100000
set_option maxHeartbeats 4000000
namespace cellsNamesCut
theorem run2 : (ex 19988).run 7 Try.f7.ntmps (firstK 2 c2) st2 = some (.normal, st3) := by kernel_rfl
theorem spine2 : spine 2 c2 = true := by kernel_rfl
end cellsNamesCut
end Go.Proofs.Ytkbgkjlgnmlghaa
