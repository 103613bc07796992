import Derived.Test.YtkbgkjlgnmlghaaCellsNamesS5
namespace Go.Proofs.Ytkbgkjlgnmlghaa
open Go Go.Sim
set_option maxRecDepth 100000
set_option maxHeartbeats 4000000
namespace cellsNamesCut
theorem run5 : saysTrue (fin Try.prog Try.f7 ((ex 19968).run 7 Try.f7.ntmps c5 st5)) = true := by kernel_rfl
end cellsNamesCut
end Go.Proofs.Ytkbgkjlgnmlghaa
