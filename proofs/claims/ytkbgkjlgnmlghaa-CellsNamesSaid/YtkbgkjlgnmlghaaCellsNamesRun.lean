import Derived.Test.YtkbgkjlgnmlghaaCellsNamesR0
import Derived.Test.YtkbgkjlgnmlghaaCellsNamesR1
import Derived.Test.YtkbgkjlgnmlghaaCellsNamesR2
import Derived.Test.YtkbgkjlgnmlghaaCellsNamesR3
import Derived.Test.YtkbgkjlgnmlghaaCellsNamesR4
import Derived.Test.YtkbgkjlgnmlghaaCellsNamesR5
namespace Go.Proofs.Ytkbgkjlgnmlghaa
open Go Go.Sim
set_option maxRecDepth 100000
set_option maxHeartbeats 4000000
theorem cellsNamesIs : Try.prog.funcNamed "fringe/fringelaw36.CellsNames" = some 7 := by kernel_rfl
open cellsNamesCut in
theorem cellsNamesRun : saysTrue ((execA Try.prog noHint (withFn 78 sub64F (withFn 76 add64F noPrims)) 20001).call 7 [] emptyH) = true := by
  have hb : Try.f7.body = some c0 := by kernel_rfl
  rw [call_eq (n := 20000) (by decide) (by kernel_rfl) Try.func7 hb]
  show saysTrue (fin Try.prog Try.f7 ((ex 20000).run 7 Try.f7.ntmps c0 st0)) = true
  rw [show (ex 20000).run 7 Try.f7.ntmps c0 st0 = (ex 19991).run 7 Try.f7.ntmps c1 st1 from split 19990 9 c0 st0 st1 spine0 run0]
  rw [show (ex 19991).run 7 Try.f7.ntmps c1 st1 = (ex 19988).run 7 Try.f7.ntmps c2 st2 from split 19987 3 c1 st1 st2 spine1 run1]
  rw [show (ex 19988).run 7 Try.f7.ntmps c2 st2 = (ex 19986).run 7 Try.f7.ntmps c3 st3 from split 19985 2 c2 st2 st3 spine2 run2]
  rw [show (ex 19986).run 7 Try.f7.ntmps c3 st3 = (ex 19976).run 7 Try.f7.ntmps c4 st4 from split 19975 10 c3 st3 st4 spine3 run3]
  rw [show (ex 19976).run 7 Try.f7.ntmps c4 st4 = (ex 19968).run 7 Try.f7.ntmps c5 st5 from split 19967 8 c4 st4 st5 spine4 run4]
  exact run5
end Go.Proofs.Ytkbgkjlgnmlghaa
