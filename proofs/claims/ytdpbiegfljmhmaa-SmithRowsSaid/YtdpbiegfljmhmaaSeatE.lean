import Derived.Test.YtdpbiegfljmhmaaSeat0
import Derived.Test.YtdpbiegfljmhmaaSymS
set_option linter.unusedSimpArgs false
set_option linter.unusedVariables false
namespace Go.Proofs.Ytdpbiegfljmhmaa
open Go.Sim
set_option maxRecDepth 100000
def x60:RX 60 Try.f60:=by constructor;conv=>lhs;cbv
def r60:=x60.1
theorem r60_ok:=x60.2
def x61:RX 61 Try.f61:=by constructor;conv=>lhs;cbv
def r61:=x61.1
theorem r61_ok:=x61.2
def x62:RX 62 Try.f62:=by constructor;conv=>lhs;cbv
def r62:=x62.1
theorem r62_ok:=x62.2
def x63:RX 63 Try.f63:=by constructor;conv=>lhs;cbv
def r63:=x63.1
theorem r63_ok:=x63.2
def x64:RX 64 Try.f64:=by constructor;conv=>lhs;cbv
def r64:=x64.1
theorem r64_ok:=x64.2
def x65:RX 65 Try.f65:=by constructor;conv=>lhs;cbv
def r65:=x65.1
theorem r65_ok:=x65.2
def x66:RX 66 Try.f66:=by constructor;conv=>lhs;cbv
def r66:=x66.1
theorem r66_ok:=x66.2
def x67:RX 67 Try.f67:=by constructor;conv=>lhs;cbv
def r67:=x67.1
theorem r67_ok:=x67.2
def x68:RX 68 Try.f68:=by constructor;conv=>lhs;cbv
def r68:=x68.1
theorem r68_ok:=x68.2
def x69:RX 69 Try.f69:=by constructor;conv=>lhs;cbv
def r69:=x69.1
theorem r69_ok:=x69.2
def x70:RX 70 Try.f70:=by constructor;conv=>lhs;cbv
def r70:=x70.1
theorem r70_ok:=x70.2
def x71:RX 71 Try.f71:=by constructor;conv=>lhs;cbv
def r71:=x71.1
theorem r71_ok:=x71.2
def x72:RX 72 Try.f72:=by constructor;conv=>lhs;cbv
def r72:=x72.1
theorem r72_ok:=x72.2
def x73:RX 73 Try.f73:=by constructor;conv=>lhs;cbv
def r73:=x73.1
theorem r73_ok:=x73.2
def x74:RX 74 Try.f74:=by constructor;conv=>lhs;cbv
def r74:=x74.1
theorem r74_ok:=x74.2
def x75:RX 75 Try.f75:=by constructor;conv=>lhs;cbv
def r75:=x75.1
theorem r75_ok:=x75.2
def x76:RX 76 Try.f76:=by constructor;conv=>lhs;cbv
def r76:=x76.1
theorem r76_ok:=x76.2
def x78:RX 78 Try.f78:=by constructor;conv=>lhs;cbv
def r78:=x78.1
theorem r78_ok:=x78.2
def x79:RX 79 Try.f79:=by constructor;conv=>lhs;cbv
def r79:=x79.1
theorem r79_ok:=x79.2
def x80:RX 80 Try.f80:=by constructor;conv=>lhs;cbv
def r80:=x80.1
theorem r80_ok:=x80.2
