import Derived.Test.YtkbgkjlgnmlghaaSeat0
import Derived.Test.YtkbgkjlgnmlghaaSymS
set_option linter.unusedSimpArgs false
set_option linter.unusedVariables false
namespace Go.Proofs.Ytkbgkjlgnmlghaa
open Go.Sim
set_option maxRecDepth 100000
def r11 : RFun :=
⟨.seq (.reg (some [0,1]) [⟨some 3,none,.op true (.box 4 (.tmp 1))⟩,Ol 4 (.assign (.const (.slice none 0 0))),Ac 5 0])
 (.seq (.seq (.reg (some [0,3]) [Mv 7 0,Ro 8 (.load 4 [.int .i64,.int .i64,.int .i64,.int .i64] (.tmp 3)),Ro 9 (.buildSlice 4 1 [.int .i64 0,.int .i64 0,.int .i64 0,.int .i64 0] [(0,4,(.tmp 8))]),Ca 10 15 [.tmp 7,.tmp 9] (some (.val (.one (.int .i64)))),As 6 10])
 (.seq (.reg (some [0,3,6]) [Mv 11 6,Bc 12 .neq 3 11 .i64 0])
 (.cond (.tmp 12) (.seq (.reg (some [6]) [Mv 13 6,Ol 4 (.assign (.const (.slice none 0 0))),As 5 13])
 .ret)
 .skip)))
 (.seq (.reg (some [0,3]) [Mv 14 0,Ro 15 (.load 4 [.int .i64,.int .i64,.int .i64,.int .i64] (.tmp 3)),Ca 16 39 [.tmp 14,.tmp 15] (some (.val (.one .slice))),As 4 16,Ac 5 0])
 .ret)),
 [.tmp 4,.tmp 5],
 [],
 []⟩
def r14 : RFun :=
⟨.seq (.reg (some [0,1]) [Ac 4 0])
 (.seq (.seq (.reg (some [0,1]) [Mv 7 0,Bc 8 .lss 3 7 .i64 2,Mv 9 8,⟨some 10,some (9,false),.op false (.old (.move (.tmp 0)))⟩,⟨some 11,some (9,false),.op false (.old (.binOp .gtr 3 (.tmp 10) (.const (.int .i64 8)) 3))⟩,Ol 12 (.pick (.tmp 9) (.const (.bool true)) (.tmp 11))])
 (.cond (.tmp 12) (.seq (.reg (some []) [Ac 4 2])
 .ret)
 .skip))
 (.seq (.seq (.reg (some [0,1]) [Mv 13 1,Ro 14 (.lenS (.tmp 13)),Bc 15 .gtr 3 14 .i64 32])
 (.cond (.tmp 15) (.seq (.reg (some []) [Ac 4 4])
 .ret)
 .skip))
 (.seq (.seq (.reg (some [0,1]) [Mv 16 1,Ro 17 (.lenS (.tmp 16)),Ol 18 (.move (.const (.int .i64 0)))])
 (.block 0 (.loop 6 (some [0,16,17,18]) (some [0,16,17,18]))))
 (.seq (.reg (some []) [Ac 4 0])
 .ret)))),
 [.tmp 4],
 [(6,⟨some [0,16,17,18],some [0,16,17,18],.seq (.reg (some [0,16,17,18]) [Bt 19 .lss 3 18 17])
 (.seq (.cond (.tmp 19) .skip
 (.exit 0 (some [])))
 (.seq (.block 1 (.seq (.reg (some [0,16,17,18]) [Ix 20 4 16 18,Ro 21 (.load 4 [.int .i64,.int .i64,.int .i64,.int .i64] (.tmp 20)),⟨some 6,none,.op true (.new 4 [.int .i64 0,.int .i64 0,.int .i64 0,.int .i64 0])⟩,⟨none,none,.op false (.store 4 (.tmp 6) (.tmp 21))⟩])
 (.seq (.reg (some [0,6,16,17,18]) [Mv 22 0,Fa 23 0 6,Ld 24 23,Ca 25 45 [.tmp 22,.tmp 24] (some (.val (.one .bool))),Ol 26 (.unOp .not 4 (.tmp 25)),Mv 27 26,⟨some 28,some (27,false),.op false (.old (.move (.tmp 0)))⟩,⟨some 29,some (27,false),.op false (.fieldAddr 2 (.tmp 6))⟩,⟨some 30,some (27,false),.op false (.load 2 [.int .i64,.int .i64] (.tmp 29))⟩,⟨some 31,some (27,false),.call (.func 45) [.tmp 28,.tmp 30] (some (.val (.one .bool)))⟩,⟨some 32,some (27,false),.op false (.old (.unOp .not 4 (.tmp 31)))⟩,Ol 33 (.pick (.tmp 27) (.const (.bool true)) (.tmp 32))])
 (.cond (.tmp 33) (.seq (.reg (some []) [Ac 4 8])
 .ret)
 .skip))))
 (.reg (some [0,16,17,18]) [Bc 34 .add 3 18 .i64 1,Mv 18 34])))⟩)],
 []⟩
theorem r14_ok : resFun (progU ()) hint live 14 Try.f14 = some r14:=by kernel_rfl
def r15 : RFun :=
⟨.seq (.reg (some [0,1]) [Ac 4 0])
 (.seq (.seq (.reg (some [0,1]) [Mv 6 0,Bc 7 .lss 3 6 .i64 2,Mv 8 7,⟨some 9,some (8,false),.op false (.old (.move (.tmp 0)))⟩,⟨some 10,some (8,false),.op false (.old (.binOp .gtr 3 (.tmp 9) (.const (.int .i64 8)) 3))⟩,Ol 11 (.pick (.tmp 8) (.const (.bool true)) (.tmp 10))])
 (.cond (.tmp 11) (.seq (.reg (some []) [Ac 4 2])
 .ret)
 .skip))
 (.seq (.seq (.reg (some [0,1]) [Mv 12 1,Ro 13 (.lenS (.tmp 12)),Bc 14 .gtr 3 13 .i64 32])
 (.cond (.tmp 14) (.seq (.reg (some []) [Ac 4 4])
 .ret)
 .skip))
 (.seq (.seq (.reg (some [0,1]) [Ac 5 0])
 (.block 0 (.loop 6 none (some [0,1,5]))))
 (.seq (.reg (some []) [Ac 4 0])
 .ret)))),
 [.tmp 4],
 [(6,⟨none,some [0,1,5],.seq (.seq (.reg (some [0,1,5]) [Mv 15 5,Mv 16 1,Ro 17 (.lenS (.tmp 16)),Bt 18 .lss 3 15 17])
 (.cond (.tmp 18) .skip
 (.exit 0 (some []))))
 (.seq (.block 1 (.seq (.reg (some [0,1,5]) [Mv 21 0,Mv 22 1,Mv 23 5,Ix 24 4 22 23,Fa 25 0 24,Ld 26 25,Ca 27 46 [.tmp 21,.tmp 26] (some (.val (.one .bool))),Ol 28 (.unOp .not 4 (.tmp 27)),Mv 29 28,⟨some 30,some (29,false),.op false (.old (.move (.tmp 0)))⟩,⟨some 31,some (29,false),.op false (.old (.move (.tmp 1)))⟩,⟨some 32,some (29,false),.op false (.old (.move (.tmp 5)))⟩,⟨some 33,some (29,false),.op false (.ixS 4 (.tmp 31) (.tmp 32))⟩,⟨some 34,some (29,false),.op false (.fieldAddr 2 (.tmp 33))⟩,⟨some 35,some (29,false),.op false (.load 2 [.int .i64,.int .i64] (.tmp 34))⟩,⟨some 36,some (29,false),.call (.func 46) [.tmp 30,.tmp 35] (some (.val (.one .bool)))⟩,⟨some 37,some (29,false),.op false (.old (.unOp .not 4 (.tmp 36)))⟩,Ol 38 (.pick (.tmp 29) (.const (.bool true)) (.tmp 37))])
 (.cond (.tmp 38) (.seq (.reg (some []) [Ac 4 8])
 .ret)
 .skip)))
 (.reg (some [0,1,5]) [Mv 19 5,Bc 20 .add 3 19 .i64 1,As 5 20]))⟩)],
 []⟩
theorem r15_ok : resFun (progU ()) hint live 15 Try.f15 = some r15:=by kernel_rfl
def r24 : RFun :=
⟨.seq (.reg (some [0]) [⟨some 2,none,.op true (.new 2 [.int .i64 0,.int .i64 0])⟩])
 (.seq (.reg (some [0,2]) [Mv 3 0,Ro 4 (.build [.int .i64 0,.int .i64 0] [(0,1,(.tmp 3)),(1,1,(.const (.int .i64 1)))]),⟨none,none,.op false (.store 2 (.tmp 2) (.tmp 4))⟩])
 .ret),
 [.agg 2 2 [.int .i64,.int .i64]],
 [],
 []⟩
theorem r24_ok : resFun (progU ()) hint live 24 Try.f24 = some r24:=by kernel_rfl
def r25 : RFun :=
⟨.seq (.reg (some [0,1]) [⟨some 2,none,.op true (.box 2 (.tmp 0))⟩,⟨some 3,none,.op true (.box 2 (.tmp 1))⟩,⟨some 4,none,.op true (.new 2 [.int .i64 0,.int .i64 0])⟩,Ac 5 0])
 (.seq (.seq (.reg (some [2,3,4]) [Ld 7 2,Ld 8 3,Ca 9 50 [.tmp 7,.tmp 8] (some (.val (.one (.int .i64)))),As 6 9])
 (.seq (.reg (some [2,3,4,6]) [Mv 10 6,Bc 11 .neq 30 10 .i64 0])
 (.cond (.tmp 11) (.seq (.reg (some [4,6]) [Ro 12 (.build [.int .i64 0,.int .i64 0] []),Mv 13 6,⟨none,none,.op false (.store 2 (.tmp 4) (.tmp 12))⟩,As 5 13])
 .ret)
 .skip)))
 (.seq (.reg (some [2,3,4]) [Ld 14 2,Ld 15 3,Ca 16 51 [.tmp 14,.tmp 15] (some (.tup [.agg [.int .i64,.int .i64],.one (.int .i64)])),Ex 17 16 0,Ex 18 16 1,⟨none,none,.op false (.store 2 (.tmp 4) (.tmp 17))⟩,As 5 18])
 .ret)),
 [.agg 4 2 [.int .i64,.int .i64],.tmp 5],
 [],
 []⟩
theorem r25_ok : resFun (progU ()) hint live 25 Try.f25 = some r25:=by kernel_rfl
def r26 : RFun :=
⟨.seq (.reg (some [0,1]) [⟨some 2,none,.op true (.box 2 (.tmp 0))⟩,⟨some 3,none,.op true (.box 2 (.tmp 1))⟩,⟨some 4,none,.op true (.new 2 [.int .i64 0,.int .i64 0])⟩,Ac 5 0])
 (.seq (.seq (.reg (some [2,3,4]) [Ld 7 2,Ld 8 3,Ca 9 50 [.tmp 7,.tmp 8] (some (.val (.one (.int .i64)))),As 6 9])
 (.seq (.reg (some [2,3,4,6]) [Mv 10 6,Bc 11 .neq 30 10 .i64 0])
 (.cond (.tmp 11) (.seq (.reg (some [4,6]) [Ro 12 (.build [.int .i64 0,.int .i64 0] []),Mv 13 6,⟨none,none,.op false (.store 2 (.tmp 4) (.tmp 12))⟩,As 5 13])
 .ret)
 .skip)))
 (.seq (.reg (some [2,3,4]) [Ld 14 2,Ld 15 3,Ca 16 52 [.tmp 14,.tmp 15] (some (.tup [.agg [.int .i64,.int .i64],.one (.int .i64)])),Ex 17 16 0,Ex 18 16 1,⟨none,none,.op false (.store 2 (.tmp 4) (.tmp 17))⟩,As 5 18])
 .ret)),
 [.agg 4 2 [.int .i64,.int .i64],.tmp 5],
 [],
 []⟩
theorem r26_ok : resFun (progU ()) hint live 26 Try.f26 = some r26:=by kernel_rfl
end Go.Proofs.Ytkbgkjlgnmlghaa
