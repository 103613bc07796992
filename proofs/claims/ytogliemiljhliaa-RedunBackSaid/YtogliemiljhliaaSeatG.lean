import Derived.Test.YtogliemiljhliaaSeat0
import Derived.Test.YtogliemiljhliaaSymS
set_option linter.unusedSimpArgs false
set_option linter.unusedVariables false
namespace Go.Proofs.Ytogliemiljhliaa
open Go.Sim
set_option maxRecDepth 100000
def r103 : RFun :=
⟨.seq (Rg [0] [Ac 2 0])
 (.seq (.seq (Rg [0,2] [Mv 3 0,Bc 4 .geq 100 3 .u64 4294967296])
 (.cond (T 4) (.seq (Rg [0] [Mv 5 0,Ol 6 (.binOp .shr 100 (T 5) (.const (.int .u64 32)) 122),As 0 6])
 (Rg [0] [Ac 2 32]))
 .skip))
 (.seq (.seq (Rg [0,2] [Mv 7 0,Bc 8 .geq 100 7 .u64 65536])
 (.cond (T 8) (.seq (Rg [0,2] [Mv 9 0,Ol 10 (.binOp .shr 100 (T 9) (.const (.int .u64 16)) 122),As 0 10])
 (Rg [0,2] [Mv 11 2,Bc 12 .add 3 11 .i64 16,As 2 12]))
 .skip))
 (.seq (.seq (Rg [0,2] [Mv 13 0,Bc 14 .geq 100 13 .u64 256])
 (.cond (T 14) (.seq (Rg [0,2] [Mv 15 0,Ol 16 (.binOp .shr 100 (T 15) (.const (.int .u64 8)) 122),As 0 16])
 (Rg [0,2] [Mv 17 2,Bc 18 .add 3 17 .i64 8,As 2 18]))
 .skip))
 (.seq (Rg [0,2] [Mv 19 2,Mv 20 0,Ro 21 (.convI .u8 (T 20)),⟨some 22,none,.op false (.old (.index 9 (.const (.string ⟨#[0,1,2,2,3,3,3,3,4,4,4,4,4,4,4,4,5,5,5,5,5,5,5,5,5,5,5,5,5,5,5,5,6,6,6,6,6,6,6,6,6,6,6,6,6,6,6,6,6,6,6,6,6,6,6,6,6,6,6,6,6,6,6,6,7,7,7,7,7,7,7,7,7,7,7,7,7,7,7,7,7,7,7,7,7,7,7,7,7,7,7,7,7,7,7,7,7,7,7,7,7,7,7,7,7,7,7,7,7,7,7,7,7,7,7,7,7,7,7,7,7,7,7,7,7,7,7,7,8,8,8,8,8,8,8,8,8,8,8,8,8,8,8,8,8,8,8,8,8,8,8,8,8,8,8,8,8,8,8,8,8,8,8,8,8,8,8,8,8,8,8,8,8,8,8,8,8,8,8,8,8,8,8,8,8,8,8,8,8,8,8,8,8,8,8,8,8,8,8,8,8,8,8,8,8,8,8,8,8,8,8,8,8,8,8,8,8,8,8,8,8,8,8,8,8,8,8,8,8,8,8,8,8,8,8,8,8,8,8,8,8,8,8,8,8,8,8,8,8,8,8,8,8,8,8,8]⟩)) (T 21)))⟩,Ro 23 (.convI .i64 (T 22)),Bt 24 .add 3 19 23,As 2 24])
 .ret)))),
 [.tmp 2],
 [],
 []⟩
theorem r103_ok:resFun (progU ()) hint live 103 Try.f103=some r103:=by kernel_rfl
def r104 : RFun :=
⟨.seq (Rg [0] [Ac 2 0])
 (.seq (Rg [0] [Mv 3 0,Ca 4 103 [T 3] vI,Ol 5 (.binOp .sub 3 (Ci 64) (T 4) 3),As 2 5])
 .ret),
 [.tmp 2],
 [],
 []⟩
theorem r104_ok:resFun (progU ()) hint live 104 Try.f104=some r104:=by kernel_rfl
def r110 : RFun :=
⟨.seq (Rg [0] [Ol 2 (.assign (.const (.bool false)))])
 (.seq (Rg [0] [Mv 3 0,Mv 4 0,Bt 5 .neq 3 3 4,As 2 5])
 .ret),
 [.tmp 2],
 [],
 []⟩
theorem r110_ok:resFun (progU ()) hint live 110 Try.f110=some r110:=by kernel_rfl
