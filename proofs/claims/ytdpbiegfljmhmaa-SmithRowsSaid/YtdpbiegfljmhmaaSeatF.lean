import Derived.Test.YtdpbiegfljmhmaaSeat0
import Derived.Test.YtdpbiegfljmhmaaSymS
set_option linter.unusedSimpArgs false
set_option linter.unusedVariables false
namespace Go.Proofs.Ytdpbiegfljmhmaa
open Go.Sim
set_option maxRecDepth 100000
def x81:RX 81 Try.f81:=by constructor;conv=>lhs;cbv
def r81:=x81.1
theorem r81_ok:=x81.2
def x85:RX 85 Try.f85:=by constructor;conv=>lhs;cbv
def r85:=x85.1
theorem r85_ok:=x85.2
def x86:RX 86 Try.f86:=by constructor;conv=>lhs;cbv
def r86:=x86.1
theorem r86_ok:=x86.2
def x87:RX 87 Try.f87:=by constructor;conv=>lhs;cbv
def r87:=x87.1
theorem r87_ok:=x87.2
def x88:RX 88 Try.f88:=by constructor;conv=>lhs;cbv
def r88:=x88.1
theorem r88_ok:=x88.2
def x89:RX 89 Try.f89:=by constructor;conv=>lhs;cbv
def r89:=x89.1
theorem r89_ok:=x89.2
def x90:RX 90 Try.f90:=by constructor;conv=>lhs;cbv
def r90:=x90.1
theorem r90_ok:=x90.2
def x91:RX 91 Try.f91:=by constructor;conv=>lhs;cbv
def r91:=x91.1
theorem r91_ok:=x91.2
def x94:RX 94 Try.f94:=by constructor;conv=>lhs;cbv
def r94:=x94.1
theorem r94_ok:=x94.2
def x95:RX 95 Try.f95:=by constructor;conv=>lhs;cbv
def r95:=x95.1
theorem r95_ok:=x95.2
def x96:RX 96 Try.f96:=by constructor;conv=>lhs;cbv
def r96:=x96.1
theorem r96_ok:=x96.2
def x97:RX 97 Try.f97:=by constructor;conv=>lhs;cbv
def r97:=x97.1
theorem r97_ok:=x97.2
