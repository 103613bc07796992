import Derived.Test.YtkbgkjlgnmlghaaSeat0
import Derived.Test.YtkbgkjlgnmlghaaSymS
set_option linter.unusedSimpArgs false
set_option linter.unusedVariables false
namespace Go.Proofs.Ytkbgkjlgnmlghaa
open Go.Sim
set_option maxRecDepth 100000
def r9 : RFun :=
⟨.seq (.reg (some [0,1]) [Ol 4 (.assign (.const (.bool false)))])
 (.seq (.reg (some [0,1]) [Mv 5 0,Ro 6 (.lenS (.tmp 5)),Bc 7 .gtr 3 6 .i64 16,Mv 8 7,⟨some 9,some (8,true),.op false (.old (.move (.tmp 0)))⟩,⟨some 10,some (8,true),.op false (.lenS (.tmp 9))⟩,⟨some 11,some (8,true),.op false (.old (.binOp .leq 3 (.tmp 10) (.const (.int .i64 32)) 3))⟩,Ol 12 (.pick (.tmp 8) (.tmp 11) (.const (.bool false))),Mv 13 12,⟨some 14,some (13,false),.op false (.old (.move (.tmp 0)))⟩,⟨some 15,some (13,false),.op false (.lenS (.tmp 14))⟩,⟨some 16,some (13,false),.op false (.old (.binOp .gtr 3 (.tmp 15) (.const (.int .i64 40)) 3))⟩,Ol 17 (.pick (.tmp 13) (.const (.bool true)) (.tmp 16)),Mv 18 17,⟨some 19,some (18,false),.op false (.old (.move (.tmp 1)))⟩,⟨some 20,some (18,false),.op false (.lenS (.tmp 19))⟩,⟨some 21,some (18,false),.op false (.old (.binOp .gtr 3 (.tmp 20) (.const (.int .i64 80)) 3))⟩,Ol 22 (.pick (.tmp 18) (.const (.bool true)) (.tmp 21)),As 4 22])
 .ret),
 [.tmp 4],
 [],
 []⟩
theorem r9_ok : resFun (progU ()) hint live 9 Try.f9 = some r9:=by kernel_rfl
def r10 : RFun :=
⟨.seq (.reg (some [0,1]) [⟨some 3,none,.op true (.box 4 (.tmp 1))⟩,Ol 4 (.assign (.const (.slice none 0 0))),Ac 5 0])
 (.seq (.seq (.reg (some [0,3]) [Mv 17 0,Ro 18 (.load 4 [.int .i64,.int .i64,.int .i64,.int .i64] (.tmp 3)),Ro 19 (.buildSlice 4 1 [.int .i64 0,.int .i64 0,.int .i64 0,.int .i64 0] [(0,4,(.tmp 18))]),Ca 20 14 [.tmp 17,.tmp 19] (some (.val (.one (.int .i64)))),As 6 20])
 (.seq (.reg (some [0,3,6]) [Mv 21 6,Bc 22 .neq 30 21 .i64 0])
 (.cond (.tmp 22) (.seq (.reg (some [6]) [Mv 23 6,Ol 4 (.assign (.const (.slice none 0 0))),As 5 23])
 .ret)
 .skip)))
 (.seq (.reg (some [0,3]) [Fa 25 0 3,Ld 26 25,Ca 27 34 [.tmp 26] (some (.tup [.one (.int .i64),.agg [.int .i64,.int .i64,.int .i64,.int .i64],.one (.int .i64)])),Mv 24 27,Ex 28 24 0,Ex 29 24 1,Ex 30 24 2,Ro 8 (.new 4 [.int .i64 0,.int .i64 0,.int .i64 0,.int .i64 0]),As 7 28,⟨none,none,.op false (.store 4 (.tmp 8) (.tmp 29))⟩,As 9 30])
 (.seq (.seq (.reg (some [0,3,7,8,9]) [Mv 31 9,Bc 32 .neq 30 31 .i64 0])
 (.cond (.tmp 32) (.seq (.reg (some [9]) [Mv 33 9,Ol 4 (.assign (.const (.slice none 0 0))),As 5 33])
 .ret)
 .skip))
 (.seq (.reg (some [0,3,7,8]) [Fa 35 2 3,Ld 36 35,Ca 37 34 [.tmp 36] (some (.tup [.one (.int .i64),.agg [.int .i64,.int .i64,.int .i64,.int .i64],.one (.int .i64)])),Mv 34 37,Ex 38 34 0,Ex 39 34 1,Ex 40 34 2,Ro 11 (.new 4 [.int .i64 0,.int .i64 0,.int .i64 0,.int .i64 0]),As 10 38,⟨none,none,.op false (.store 4 (.tmp 11) (.tmp 39))⟩,As 9 40])
 (.seq (.seq (.reg (some [0,7,8,9,10,11]) [Mv 41 9,Bc 42 .neq 30 41 .i64 0])
 (.cond (.tmp 42) (.seq (.reg (some [9]) [Mv 43 9,Ol 4 (.assign (.const (.slice none 0 0))),As 5 43])
 .ret)
 .skip))
 (.seq (.reg (some [0,7,8,10,11]) [Ol 12 (.assign (.const (.slice none 0 0)))])
 (.seq (.seq (.reg (some [0,7,8,10,11,12]) [Ol 44 (.move (.const (.int .i64 0)))])
 (.block 0 (.loop 12 (some [0,7,8,10,11,12,44]) (some [0,7,8,10,11,12,44]))))
 (.seq (.reg (some [12]) [Mv 83 12,Ca 84 35 [.tmp 83,.func 36] (some (.tup []))])
 (.seq (.reg (some [12]) [Mv 85 12,As 4 85,Ac 5 0])
 .ret))))))))),
 [.tmp 4,.tmp 5],
 [(12,⟨some [0,7,8,10,11,12,44],some [0,7,8,10,11,12,44],.seq (.reg (some [0,7,8,10,11,12,44]) [Bc 45 .lss 3 44 .i64 2])
 (.seq (.cond (.tmp 45) .skip
 (.exit 0 (some [12])))
 (.seq (.block 1 (.seq (.reg (some [0,7,8,10,11,12,44]) [Mv 46 44,As 13 46])
 (.seq (.reg (some [0,7,8,10,11,12,13,44]) [Ol 47 (.move (.const (.int .i64 0)))])
 (.block 2 (.loop 15 (some [0,7,8,10,11,12,13,44,47]) (some [0,7,8,10,11,12,13,44,47]))))))
 (.reg (some [0,7,8,10,11,12,44]) [Bc 82 .add 3 44 .i64 1,Mv 44 82])))⟩),(15,⟨some [0,7,8,10,11,12,13,44,47],some [0,7,8,10,11,12,13,44,47],.seq (.reg (some [0,7,8,10,11,12,13,44,47]) [Bc 48 .lss 3 47 .i64 2])
 (.seq (.cond (.tmp 48) .skip
 (.exit 2 (some [0,7,8,10,11,12,44])))
 (.seq (.block 3 (.seq (.reg (some [0,7,8,10,11,12,13,44,47]) [Mv 49 47,As 14 49])
 (.seq (.draw (some [0,7,8,10,11,12,13,14,44,47]) 13 [Dr (Mv 51 14) 0 [1,2,6,7,8,9,11,12],Dr (Ro 52 (.ixA 2 2 (.tmp 8) (.tmp 51))) 1 [2,6,7,8,9,11,12],Db (Ld 53 52) 2 52 [6,7,8,9,11,12],Dr (Mv 54 13) 3 [4,5,6,7,8,9,11,12],Dr (Ro 55 (.ixA 2 2 (.tmp 11) (.tmp 54))) 4 [5,6,7,8,9,11,12],Db (Ld 56 55) 5 55 [6,7,8,9,11,12],⟨⟨some 15,none,.op true (.new 2 [.int .i64 0,.int .i64 0])⟩,10,.new true,[11,12],false,true⟩,⟨Ca 57 25 [.tmp 53,.tmp 56] (some (.tup [.agg [.int .i64,.int .i64],.one (.int .i64)])),6,.all,[7,8,9,11,12],false,false⟩,Dr (Mv 50 57) 7 [8,9,11,12],Dr (Ex 58 50 0) 8 [11,12],Dr (Ex 59 50 1) 9 [12],⟨⟨none,none,.op false (.store 2 (.tmp 15) (.tmp 58))⟩,11,.blk (.tmp 15),[12],true,true⟩,Dr (As 16 59) 12 []])
 (.seq (.seq (.reg (some [0,7,8,10,11,12,13,14,15,16,44,47]) [Mv 60 16,Bc 61 .neq 30 60 .i64 0])
 (.cond (.tmp 61) (.seq (.reg (some [16]) [Mv 62 16,Ol 4 (.assign (.const (.slice none 0 0))),As 5 62])
 .ret)
 .skip))
 (.seq (.reg (some [0,7,8,10,11,12,13,14,15,44,47]) [Fa 63 0 15,L1 64 63,Bc 65 .neq 2 64 .i64 0])
 (.cond (.tmp 65) (.draw (some [0,7,8,10,11,12,13,14,15,44,47]) 16 [Dr (Mv 66 12) 0 [14,15],Dr (Mv 67 7) 1 [3,5,12,13,14,15],Dr (Mv 68 14) 2 [3,5,12,13,14,15],Dr (Bt 69 .add 3 67 68) 3 [5,12,13,14,15],Dr (Mv 70 0) 4 [5,12,13,14,15],Dr (Bt 71 .rem 3 69 70) 5 [12,13,14,15],Dr (Mv 72 10) 6 [8,10,12,13,14,15],Dr (Mv 73 13) 7 [8,10,12,13,14,15],Dr (Bt 74 .add 3 72 73) 8 [10,12,13,14,15],Dr (Mv 75 0) 9 [10,12,13,14,15],Dr (Bt 76 .rem 3 74 75) 10 [12,13,14,15],Db (Ld 77 15) 11 15 [12,13,14,15],Dr (Ro 78 (.build [.int .i64 0,.int .i64 0,.int .i64 0,.int .i64 0] [(0,1,(.tmp 71)),(1,1,(.tmp 76)),(2,2,(.tmp 77))])) 12 [13,14,15],⟨Ro 79 (.buildSlice 4 1 [.int .i64 0,.int .i64 0,.int .i64 0,.int .i64 0] [(0,4,(.tmp 78))]),13,.new false,[14,15],false,true⟩,⟨⟨some 80,none,.op false (.old (.call ⟨.builtin .append,#[.tmp 66,.tmp 79],#[29,29]⟩))⟩,14,.all,[15],false,false⟩,Dr (As 12 80) 15 []])
 .skip))))))
 (.reg (some [0,7,8,10,11,12,13,44,47]) [Bc 81 .add 3 47 .i64 1,Mv 47 81])))⟩)],
 []⟩
theorem r10_ok : resFun (progU ()) hint live 10 Try.f10 = some r10:=by kernel_rfl
end Go.Proofs.Ytkbgkjlgnmlghaa
