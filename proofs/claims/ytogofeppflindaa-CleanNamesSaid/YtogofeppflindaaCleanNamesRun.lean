import Derived.Test.YtogofeppflindaaProg
import Derived.Test.YtogofeppflindaaSimD
import Derived.KernelRfl
namespace Go.Proofs.Ytogofeppflindaa
open Go.Sim
set_option maxRecDepth 100000
theorem cleanNamesIs : Try.prog.funcNamed "fringe/fringelaw40.CleanNames" = some 9 := by kernel_rfl
theorem cleanNamesRun : saysTrue ((execA Try.prog ⟨fun f d => (Nat.beq f 46 && Nat.beq d 11), fun _ _ => none⟩ noPrims 10000).call 9 [] emptyH) = true := by kernel_rfl
end Go.Proofs.Ytogofeppflindaa
