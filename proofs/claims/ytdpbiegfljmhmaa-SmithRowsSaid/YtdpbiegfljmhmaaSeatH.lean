import Derived.Test.YtdpbiegfljmhmaaSeat0
import Derived.Test.YtdpbiegfljmhmaaSymS
set_option linter.unusedSimpArgs false
set_option linter.unusedVariables false
namespace Go.Proofs.Ytdpbiegfljmhmaa
open Go.Sim
set_option maxRecDepth 100000
def x110:RX 110 Try.f110:=by constructor;conv=>lhs;cbv
def r110:=x110.1
theorem r110_ok:=x110.2
def x111:RX 111 Try.f111:=by constructor;conv=>lhs;cbv
def r111:=x111.1
theorem r111_ok:=x111.2
def x112:RX 112 Try.f112:=by constructor;conv=>lhs;cbv
def r112:=x112.1
theorem r112_ok:=x112.2
def x114:RX 114 Try.f114:=by constructor;conv=>lhs;cbv
def r114:=x114.1
theorem r114_ok:=x114.2
def x116:RX 116 Try.f116:=by constructor;conv=>lhs;cbv
def r116:=x116.1
theorem r116_ok:=x116.2
def x117:RX 117 Try.f117:=by constructor;conv=>lhs;cbv
def r117:=x117.1
theorem r117_ok:=x117.2
def x120:RX 120 Try.f120:=by constructor;conv=>lhs;cbv
def r120:=x120.1
theorem r120_ok:=x120.2
def x121:RX 121 Try.f121:=by constructor;conv=>lhs;cbv
def r121:=x121.1
theorem r121_ok:=x121.2
def x122:RX 122 Try.f122:=by constructor;conv=>lhs;cbv
def r122:=x122.1
theorem r122_ok:=x122.2
def x123:RX 123 Try.f123:=by constructor;conv=>lhs;cbv
def r123:=x123.1
theorem r123_ok:=x123.2
def x124:RX 124 Try.f124:=by constructor;conv=>lhs;cbv
def r124:=x124.1
theorem r124_ok:=x124.2
def x125:RX 125 Try.f125:=by constructor;conv=>lhs;cbv
def r125:=x125.1
theorem r125_ok:=x125.2
def x127:RX 127 Try.f127:=by constructor;conv=>lhs;cbv
def r127:=x127.1
theorem r127_ok:=x127.2
