import Derived.Test.YtogliemiljhliaaSeat0
import Derived.Test.YtogliemiljhliaaSymS
set_option linter.unusedSimpArgs false
set_option linter.unusedVariables false
namespace Go.Proofs.Ytogliemiljhliaa
open Go.Sim
set_option maxRecDepth 100000
def r28 : RFun :=
⟨.seq (.reg (some [0,1]) [Ol 4 (.assign (.const (.bool false)))])
 (.seq (.seq (.reg (some [0,1]) [Mv 6 0,Ro 7 (.lenS (.tmp 6)),Mv 8 1,Ro 9 (.lenS (.tmp 8)),Bt 10 .neq 3 7 9])
 (.cond (.tmp 10) (.seq (.reg (some []) [Ol 4 (.assign (.const (.bool false)))])
 .ret)
 .skip))
 (.seq (.seq (.reg (some [0,1]) [Ac 5 0])
 (.block 0 (.loop 4 (some [0,1,5]) (some [0,1,5]))))
 (.seq (.reg (some []) [Ol 4 (.assign (.const (.bool true)))])
 .ret))),
 [.tmp 4],
 [(4,⟨some [0,1,5],some [0,1,5],.seq (.seq (.reg (some [0,1,5]) [Mv 11 5,Mv 12 0,Ro 13 (.lenS (.tmp 12)),Bt 14 .lss 3 11 13])
 (.cond (.tmp 14) .skip
 (.exit 0 (some []))))
 (.seq (.block 1 (.seq (.draw (some [0,1,5]) 9 [Dr (Mv 17 0) 0 [2,3,8],Dr (Mv 18 5) 1 [2,3,8],Dr (Ix 19 2 17 18) 2 [3,8],Db (Ld 20 19) 3 19 [8],Dr (Mv 21 1) 4 [6,7,8],Dr (Mv 22 5) 5 [6,7,8],Dr (Ix 23 2 21 22) 6 [7,8],Db (Ld 24 23) 7 23 [8],Dr (Bt 25 .neq 52 20 24) 8 []])
 (.cond (.tmp 25) (.seq (.reg (some []) [Ol 4 (.assign (.const (.bool false)))])
 .ret)
 .skip)))
 (.reg (some [0,1,5]) [Mv 15 5,Bc 16 .add 3 15 .i64 1,As 5 16]))⟩)],
 []⟩
theorem r28_ok : resFun (progU ()) hint live 28 Try.f28 = some r28:=by kernel_rfl
def r33 : RFun :=
⟨.seq (.reg (some [0,1]) [⟨some 2,none,.op true (.box 2 (.tmp 0))⟩,⟨some 3,none,.op true (.box 2 (.tmp 1))⟩,⟨some 4,none,.op true (.new 2 [.int .i64 0,.int .i64 0])⟩,Ac 5 0])
 (.seq (.seq (.reg (some [2,3,4]) [Ld 6 2,Ld 7 3,Ca 8 55 [.tmp 6,.tmp 7] (some (.val (.one (.int .i64)))),Bc 9 .neq 3 8 .i64 0])
 (.cond (.tmp 9) (.seq (.reg (some [2,3,4]) [Ro 10 (.build [.int .i64 0,.int .i64 0] []),Ld 11 2,Ld 12 3,Ca 13 55 [.tmp 11,.tmp 12] (some (.val (.one (.int .i64)))),⟨none,none,.op false (.store 2 (.tmp 4) (.tmp 10))⟩,As 5 13])
 .ret)
 .skip))
 (.seq (.draw (some [2,3,4]) 8 [Db (Ld 14 2) 0 2 [3,4,5,6,7],Db (Ld 15 3) 1 3 [2,3,4,5,6,7],⟨Ca 16 56 [.tmp 15] (some (.val (.agg [.int .i64,.int .i64]))),2,.all,[3,4,5,6,7],false,false⟩,⟨Ca 17 43 [.tmp 14,.tmp 16] (some (.tup [.agg [.int .i64,.int .i64],.one (.int .i64)])),3,.all,[4,5,6,7],false,false⟩,Dr (Ex 18 17 0) 4 [6,7],Dr (Ex 19 17 1) 5 [6,7],⟨⟨none,none,.op false (.store 2 (.tmp 4) (.tmp 18))⟩,6,.blk (.tmp 4),[7],true,true⟩,Dr (As 5 19) 7 []])
 .ret)),
 [.agg 4 2 [.int .i64,.int .i64],.tmp 5],
 [],
 []⟩
theorem r33_ok : resFun (progU ()) hint live 33 Try.f33 = some r33:=by kernel_rfl
def r35 : RFun :=
⟨.seq (.reg (some [0]) [Ol 2 (.assign (.const (.slice none 0 0)))])
 (.seq (.reg (some [0]) [Ol 3 (.assign (.const (.slice none 0 0)))])
 (.seq (.seq (.reg (some [0,3]) [Mv 6 0,Ca 7 44 [.tmp 6] (some (.val (.one .slice))),Ro 8 (.lenS (.tmp 7)),Ol 9 (.move (.const (.int .i64 0)))])
 (.block 0 (.loop 3 (some [0,3,7,8,9]) (some [0,3,7,8,9]))))
 (.seq (.reg (some [3]) [Mv 28 3,Ca 29 58 [.tmp 28] (some (.tup []))])
 (.seq (.reg (some [3]) [Mv 30 3,Ca 31 59 [.tmp 30] (some (.val (.one .slice))),As 2 31])
 .ret)))),
 [.tmp 2],
 [(3,⟨some [0,3,7,8,9],some [0,3,7,8,9],.seq (.reg (some [0,3,7,8,9]) [Bt 10 .lss 3 9 8])
 (.seq (.cond (.tmp 10) .skip
 (.exit 0 (some [3])))
 (.seq (.block 1 (.seq (.reg (some [0,3,7,8,9]) [Ix 11 2 7 9,Ld 12 11,⟨some 5,none,.op true (.new 2 [.int .i64 0,.int .i64 0])⟩,⟨none,none,.op false (.store 2 (.tmp 5) (.tmp 12))⟩])
 (.draw (some [0,3,5,7,8,9]) 15 [Dr (Mv 13 3) 0 [13,14],Dr (Mv 14 0) 1 [4,5,11,12,13,14],Dr (Fa 15 1 5) 2 [3,4,5,11,12,13,14],Db (L1 16 15) 3 15 [4,5,11,12,13,14],Dr (Ix 17 1 14 16) 4 [5,11,12,13,14],Db (L1 18 17) 5 17 [11,12,13,14],Dr (Mv 19 0) 6 [9,10,11,12,13,14],Dr (Fa 20 0 5) 7 [8,9,10,11,12,13,14],Db (L1 21 20) 8 20 [9,10,11,12,13,14],Dr (Ix 22 1 19 21) 9 [10,11,12,13,14],Db (L1 23 22) 10 22 [11,12,13,14],Dr (Bt 24 .sub 3 18 23) 11 [12,13,14],⟨Ro 25 (.buildSlice 1 1 [.int .i64 0] [(0,1,(.tmp 24))]),12,.new false,[13,14],false,true⟩,⟨⟨some 26,none,.op false (.old (.call ⟨.builtin .append,#[.tmp 13,.tmp 25],#[22,22]⟩))⟩,13,.app [.tmp 13,.tmp 25],[14],false,false⟩,Dr (As 3 26) 14 []])))
 (.reg (some [0,3,7,8,9]) [Bc 27 .add 3 9 .i64 1,Mv 9 27])))⟩)],
 []⟩
theorem r35_ok : resFun (progU ()) hint live 35 Try.f35 = some r35:=by kernel_rfl
def r36 : RFun :=
⟨.seq (.reg (some [0]) [Ol 2 (.assign (.const (.slice none 0 0)))])
 (.seq (.reg (some [0]) [Ol 3 (.assign (.const (.slice none 0 0)))])
 (.seq (.seq (.reg (some [0,3]) [Ac 4 1])
 (.block 0 (.loop 3 none (some [0,3,4]))))
 (.seq (.reg (some [3]) [Mv 34 3,As 2 34])
 .ret))),
 [.tmp 2],
 [(3,⟨none,some [0,3,4],.seq (.seq (.reg (some [0,3,4]) [Mv 7 4,Bc 8 .leq 3 7 .i64 31])
 (.cond (.tmp 8) .skip
 (.exit 0 (some [3]))))
 (.seq (.block 1 (.seq (.reg (some [0,3,4]) [Ol 5 (.assign (.const (.bool false)))])
 (.seq (.seq (.reg (some [0,3,4,5]) [Ac 6 0])
 (.block 2 (.loop 7 none (some [0,3,4,5,6]))))
 (.seq (.reg (some [0,3,4,5]) [Mv 29 5])
 (.cond (.tmp 29) (.reg (some [0,3,4]) [Mv 30 3,Mv 31 4,Ro 32 (.buildSlice 1 1 [.int .i64 0] [(0,1,(.tmp 31))]),⟨some 33,none,.op false (.old (.call ⟨.builtin .append,#[.tmp 30,.tmp 32],#[22,22]⟩))⟩,As 3 33])
 .skip)))))
 (.reg (some [0,3,4]) [Mv 9 4,Bc 10 .add 3 9 .i64 1,As 4 10]))⟩),(7,⟨none,some [0,3,4,5,6],.seq (.seq (.reg (some [0,3,4,5,6]) [Mv 11 6,Mv 12 0,Ro 13 (.lenS (.tmp 12)),Bt 14 .lss 3 11 13])
 (.cond (.tmp 14) .skip
 (.exit 2 (some [0,3,4,5]))))
 (.seq (.block 3 (.reg (some [0,3,4,5,6]) [Mv 17 5,Mv 18 17,⟨some 19,some (18,false),.op false (.old (.move (.tmp 0)))⟩,⟨some 20,some (18,false),.op false (.old (.move (.tmp 0)))⟩,⟨some 21,some (18,false),.op false (.old (.move (.tmp 6)))⟩,⟨some 22,some (18,false),.op false (.ixS 1 (.tmp 20) (.tmp 21))⟩,⟨some 23,some (18,false),.op false (.load1 (.int .i64) (.tmp 22))⟩,⟨some 24,some (18,false),.op false (.old (.move (.tmp 4)))⟩,⟨some 25,some (18,false),.op false (.old (.binOp .add 3 (.tmp 23) (.tmp 24) 3))⟩,⟨some 26,some (18,false),.call (.func 54) [.tmp 19,.tmp 25] (some (.val (.one (.int .i64))))⟩,⟨some 27,some (18,false),.op false (.old (.binOp .geq 3 (.tmp 26) (.const (.int .i64 0)) 3))⟩,Ol 28 (.pick (.tmp 18) (.const (.bool true)) (.tmp 27)),As 5 28]))
 (.reg (some [0,3,4,5,6]) [Mv 15 6,Bc 16 .add 3 15 .i64 1,As 6 16]))⟩)],
 []⟩
theorem r36_ok : resFun (progU ()) hint live 36 Try.f36 = some r36:=by kernel_rfl
end Go.Proofs.Ytogliemiljhliaa
