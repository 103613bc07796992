/-
  THE RESOLVED FORM OF EACH FUNCTION OF THIS SEAT. (Written by seat2.sh; the kernel looks whether it is right.)
-/
import Derived.Test.YtnokkniofajnhaaSeatA
import Derived.Test.YtnokkniofajnhaaSeatB
namespace Go.Proofs.Ytnokkniofajnhaa
open Go.Sim
set_option maxRecDepth 100000
end Go.Proofs.Ytnokkniofajnhaa
