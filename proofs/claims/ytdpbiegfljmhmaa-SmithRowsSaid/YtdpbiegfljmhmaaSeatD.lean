import Derived.Test.YtdpbiegfljmhmaaSeat0
import Derived.Test.YtdpbiegfljmhmaaSymS
set_option linter.unusedSimpArgs false
set_option linter.unusedVariables false
namespace Go.Proofs.Ytdpbiegfljmhmaa
open Go.Sim
set_option maxRecDepth 100000
def x43:RX 43 Try.f43:=by constructor;conv=>lhs;cbv
def r43:=x43.1
theorem r43_ok:=x43.2
def x44:RX 44 Try.f44:=by constructor;conv=>lhs;cbv
def r44:=x44.1
theorem r44_ok:=x44.2
def x45:RX 45 Try.f45:=by constructor;conv=>lhs;cbv
def r45:=x45.1
theorem r45_ok:=x45.2
def x46:RX 46 Try.f46:=by constructor;conv=>lhs;cbv
def r46:=x46.1
theorem r46_ok:=x46.2
def x47:RX 47 Try.f47:=by constructor;conv=>lhs;cbv
def r47:=x47.1
theorem r47_ok:=x47.2
def x48:RX 48 Try.f48:=by constructor;conv=>lhs;cbv
def r48:=x48.1
theorem r48_ok:=x48.2
def x49:RX 49 Try.f49:=by constructor;conv=>lhs;cbv
def r49:=x49.1
theorem r49_ok:=x49.2
def x50:RX 50 Try.f50:=by constructor;conv=>lhs;cbv
def r50:=x50.1
theorem r50_ok:=x50.2
def x51:RX 51 Try.f51:=by constructor;conv=>lhs;cbv
def r51:=x51.1
theorem r51_ok:=x51.2
def x53:RX 53 Try.f53:=by constructor;conv=>lhs;cbv
def r53:=x53.1
theorem r53_ok:=x53.2
def x55:RX 55 Try.f55:=by constructor;conv=>lhs;cbv
def r55:=x55.1
theorem r55_ok:=x55.2
def x56:RX 56 Try.f56:=by constructor;conv=>lhs;cbv
def r56:=x56.1
theorem r56_ok:=x56.2
def x57:RX 57 Try.f57:=by constructor;conv=>lhs;cbv
def r57:=x57.1
theorem r57_ok:=x57.2
