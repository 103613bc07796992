import Derived.Test.YtdpbiegfljmhmaaSeat0
import Derived.Test.YtdpbiegfljmhmaaSymS
set_option linter.unusedSimpArgs false
set_option linter.unusedVariables false
namespace Go.Proofs.Ytdpbiegfljmhmaa
open Go.Sim
set_option maxRecDepth 100000
def x19:RX 19 Try.f19:=by constructor;conv=>lhs;cbv
def r19:=x19.1
theorem r19_ok:=x19.2
def x20:RX 20 Try.f20:=by constructor;conv=>lhs;cbv
def r20:=x20.1
theorem r20_ok:=x20.2
def x21:RX 21 Try.f21:=by constructor;conv=>lhs;cbv
def r21:=x21.1
theorem r21_ok:=x21.2
def x22:RX 22 Try.f22:=by constructor;conv=>lhs;cbv
def r22:=x22.1
theorem r22_ok:=x22.2
def x24:RX 24 Try.f24:=by constructor;conv=>lhs;cbv
def r24:=x24.1
theorem r24_ok:=x24.2
def x27:RX 27 Try.f27:=by constructor;conv=>lhs;cbv
def r27:=x27.1
theorem r27_ok:=x27.2
def x29:RX 29 Try.f29:=by constructor;conv=>lhs;cbv
def r29:=x29.1
theorem r29_ok:=x29.2
def x31:RX 31 Try.f31:=by constructor;conv=>lhs;cbv
def r31:=x31.1
theorem r31_ok:=x31.2
def x32:RX 32 Try.f32:=by constructor;conv=>lhs;cbv
def r32:=x32.1
theorem r32_ok:=x32.2
def x34:RX 34 Try.f34:=by constructor;conv=>lhs;cbv
def r34:=x34.1
theorem r34_ok:=x34.2
def x35:RX 35 Try.f35:=by constructor;conv=>lhs;cbv
def r35:=x35.1
theorem r35_ok:=x35.2
def x36:RX 36 Try.f36:=by constructor;conv=>lhs;cbv
def r36:=x36.1
theorem r36_ok:=x36.2
def x37:RX 37 Try.f37:=by constructor;conv=>lhs;cbv
def r37:=x37.1
theorem r37_ok:=x37.2
def x38:RX 38 Try.f38:=by constructor;conv=>lhs;cbv
def r38:=x38.1
theorem r38_ok:=x38.2
def x39:RX 39 Try.f39:=by constructor;conv=>lhs;cbv
def r39:=x39.1
theorem r39_ok:=x39.2
def x40:RX 40 Try.f40:=by constructor;conv=>lhs;cbv
def r40:=x40.1
theorem r40_ok:=x40.2
def x41:RX 41 Try.f41:=by constructor;conv=>lhs;cbv
def r41:=x41.1
theorem r41_ok:=x41.2
def x42:RX 42 Try.f42:=by constructor;conv=>lhs;cbv
def r42:=x42.1
theorem r42_ok:=x42.2
