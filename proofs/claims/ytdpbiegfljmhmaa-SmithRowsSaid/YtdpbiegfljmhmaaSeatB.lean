import Derived.Test.YtdpbiegfljmhmaaSeat0
import Derived.Test.YtdpbiegfljmhmaaSymS
set_option linter.unusedSimpArgs false
set_option linter.unusedVariables false
namespace Go.Proofs.Ytdpbiegfljmhmaa
open Go.Sim
set_option maxRecDepth 100000
def x8:RX 8 Try.f8:=by constructor;conv=>lhs;cbv
def r8:=x8.1
theorem r8_ok:=x8.2
def x12:RX 12 Try.f12:=by constructor;conv=>lhs;cbv
def r12:=x12.1
theorem r12_ok:=x12.2
def x13:RX 13 Try.f13:=by constructor;conv=>lhs;cbv
def r13:=x13.1
theorem r13_ok:=x13.2
def x14:RX 14 Try.f14:=by constructor;conv=>lhs;cbv
def r14:=x14.1
theorem r14_ok:=x14.2
