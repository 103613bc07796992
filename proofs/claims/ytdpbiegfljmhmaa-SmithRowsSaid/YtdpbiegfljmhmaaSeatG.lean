import Derived.Test.YtdpbiegfljmhmaaSeat0
import Derived.Test.YtdpbiegfljmhmaaSymS
set_option linter.unusedSimpArgs false
set_option linter.unusedVariables false
namespace Go.Proofs.Ytdpbiegfljmhmaa
open Go.Sim
set_option maxRecDepth 100000
def x98:RX 98 Try.f98:=by constructor;conv=>lhs;cbv
def r98:=x98.1
theorem r98_ok:=x98.2
def x99:RX 99 Try.f99:=by constructor;conv=>lhs;cbv
def r99:=x99.1
theorem r99_ok:=x99.2
def x100:RX 100 Try.f100:=by constructor;conv=>lhs;cbv
def r100:=x100.1
theorem r100_ok:=x100.2
def x101:RX 101 Try.f101:=by constructor;conv=>lhs;cbv
def r101:=x101.1
theorem r101_ok:=x101.2
def x102:RX 102 Try.f102:=by constructor;conv=>lhs;cbv
def r102:=x102.1
theorem r102_ok:=x102.2
def x103:RX 103 Try.f103:=by constructor;conv=>lhs;cbv
def r103:=x103.1
theorem r103_ok:=x103.2
def x104:RX 104 Try.f104:=by constructor;conv=>lhs;cbv
def r104:=x104.1
theorem r104_ok:=x104.2
def x105:RX 105 Try.f105:=by constructor;conv=>lhs;cbv
def r105:=x105.1
theorem r105_ok:=x105.2
def x106:RX 106 Try.f106:=by constructor;conv=>lhs;cbv
def r106:=x106.1
theorem r106_ok:=x106.2
def x107:RX 107 Try.f107:=by constructor;conv=>lhs;cbv
def r107:=x107.1
theorem r107_ok:=x107.2
def x108:RX 108 Try.f108:=by constructor;conv=>lhs;cbv
def r108:=x108.1
theorem r108_ok:=x108.2
