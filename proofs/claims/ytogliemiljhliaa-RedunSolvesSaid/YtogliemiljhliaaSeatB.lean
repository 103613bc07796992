import Derived.Test.YtogliemiljhliaaSeat0
import Derived.Test.YtogliemiljhliaaSymS
set_option linter.unusedSimpArgs false
set_option linter.unusedVariables false
namespace Go.Proofs.Ytogliemiljhliaa
open Go.Sim
set_option maxRecDepth 100000
def r10 : RFun :=
⟨.seq (.reg (some [0]) [Ol 2 (.assign (.const (.slice none 0 0))),Ac 3 0])
 (.seq (.seq (.reg (some [0]) [Mv 5 0,Ca 6 18 [.tmp 5] (some (.val (.one (.int .i64)))),As 4 6])
 (.seq (.reg (some [0,4]) [Mv 7 4,Bc 8 .neq 23 7 .i64 0])
 (.cond (.tmp 8) (.seq (.reg (some [4]) [Mv 9 4,Ol 2 (.assign (.const (.slice none 0 0))),As 3 9])
 .ret)
 .skip)))
 (.seq (.reg (some [0]) [Mv 10 0,Ca 11 35 [.tmp 10] (some (.val (.one .slice))),As 2 11,Ac 3 0])
 .ret)),
 [.tmp 2,.tmp 3],
 [],
 []⟩
theorem r10_ok : resFun (progU ()) hint live 10 Try.f10 = some r10:=by kernel_rfl
def r11 : RFun :=
⟨.seq (.reg (some [0]) [Ol 2 (.assign (.const (.slice none 0 0))),Ac 3 0])
 (.seq (.seq (.reg (some [0]) [Mv 4 0,Ca 5 19 [.tmp 4] (some (.val (.one (.int .i64)))),Bc 6 .neq 3 5 .i64 0])
 (.cond (.tmp 6) (.seq (.reg (some [0]) [Mv 7 0,Ca 8 19 [.tmp 7] (some (.val (.one (.int .i64)))),Ol 2 (.assign (.const (.slice none 0 0))),As 3 8])
 .ret)
 .skip))
 (.seq (.reg (some [0]) [Mv 9 0,Ca 10 36 [.tmp 9] (some (.val (.one .slice))),As 2 10,Ac 3 0])
 .ret)),
 [.tmp 2,.tmp 3],
 [],
 []⟩
def r12 : RFun :=
⟨.seq (.reg (some [0]) [Ol 2 (.assign (.const (.slice none 0 0))),Ac 3 0])
 (.seq (.seq (.reg (some [0]) [Mv 5 0,Ca 6 18 [.tmp 5] (some (.val (.one (.int .i64)))),As 4 6])
 (.seq (.reg (some [0,4]) [Mv 7 4,Bc 8 .neq 23 7 .i64 0])
 (.cond (.tmp 8) (.seq (.reg (some [4]) [Mv 9 4,Ol 2 (.assign (.const (.slice none 0 0))),As 3 9])
 .ret)
 .skip)))
 (.seq (.reg (some [0]) [Mv 10 0,Ca 11 37 [.tmp 10] (some (.val (.one .slice))),As 2 11,Ac 3 0])
 .ret)),
 [.tmp 2,.tmp 3],
 [],
 []⟩
theorem r12_ok : resFun (progU ()) hint live 12 Try.f12 = some r12:=by kernel_rfl
def r14 : RFun :=
⟨.seq (.reg (some [0]) [Ol 2 (.assign (.const (.slice none 0 0))),Ac 3 0])
 (.seq (.seq (.reg (some [0]) [Mv 5 0,Ca 6 18 [.tmp 5] (some (.val (.one (.int .i64)))),As 4 6])
 (.seq (.reg (some [0,4]) [Mv 7 4,Bc 8 .neq 23 7 .i64 0])
 (.cond (.tmp 8) (.seq (.reg (some [4]) [Mv 9 4,Ol 2 (.assign (.const (.slice none 0 0))),As 3 9])
 .ret)
 .skip)))
 (.seq (.reg (some [0]) [Mv 10 0,Ca 11 39 [.tmp 10] (some (.val (.one .slice))),As 2 11,Ac 3 0])
 .ret)),
 [.tmp 2,.tmp 3],
 [],
 []⟩
theorem r14_ok : resFun (progU ()) hint live 14 Try.f14 = some r14:=by kernel_rfl
def r18 : RFun :=
⟨.seq (.reg (some [0]) [Ac 2 0])
 (.seq (.seq (.reg (some [0]) [Mv 5 0,Ro 6 (.lenS (.tmp 5)),Bc 7 .gtr 3 6 .i64 5])
 (.cond (.tmp 7) (.seq (.reg (some []) [Ac 2 4])
 .ret)
 .skip))
 (.seq (.seq (.reg (some [0]) [Mv 8 0,Ro 9 (.lenS (.tmp 8)),Bc 10 .lss 3 9 .i64 2])
 (.cond (.tmp 10) (.seq (.reg (some []) [Ac 2 8])
 .ret)
 .skip))
 (.seq (.seq (.reg (some [0]) [Mv 11 0,Ro 12 (.lenS (.tmp 11)),Ol 13 (.move (.const (.int .i64 0)))])
 (.block 0 (.loop 6 none (some [0,11,12,13]))))
 (.seq (.reg (some []) [Ac 2 0])
 .ret)))),
 [.tmp 2],
 [(6,⟨none,some [0,11,12,13],.seq (.reg (some [0,11,12,13]) [Bt 14 .lss 3 13 12])
 (.seq (.cond (.tmp 14) .skip
 (.exit 0 (some [])))
 (.seq (.block 1 (.seq (.reg (some [0,11,12,13]) [Mv 15 13,Ix 16 1 11 13,L1 17 16,As 3 15,As 4 17])
 (.seq (.reg (some [0,3,4,11,12,13]) [Mv 18 4,Bc 19 .lss 3 18 .i64 0,Mv 20 19,⟨some 21,some (20,false),.op false (.old (.move (.tmp 4)))⟩,⟨some 22,some (20,false),.op false (.old (.binOp .gtr 3 (.tmp 21) (.const (.int .i64 31)) 3))⟩,Ol 23 (.pick (.tmp 20) (.const (.bool true)) (.tmp 22)),Mv 24 23,⟨some 25,some (24,false),.op false (.old (.move (.tmp 3)))⟩,⟨some 26,some (24,false),.op false (.old (.binOp .gtr 3 (.tmp 25) (.const (.int .i64 0)) 3))⟩,⟨some 27,some (24,false),.op false (.old (.move (.tmp 26)))⟩,⟨some 28,some (27,true),.op false (.old (.move (.tmp 4)))⟩,⟨some 29,some (27,true),.op false (.old (.move (.tmp 0)))⟩,⟨some 30,some (27,true),.op false (.old (.move (.tmp 3)))⟩,⟨some 31,some (27,true),.op false (.old (.binOp .sub 3 (.tmp 30) (.const (.int .i64 1)) 3))⟩,⟨some 32,some (27,true),.op false (.ixS 1 (.tmp 29) (.tmp 31))⟩,⟨some 33,some (27,true),.op false (.load1 (.int .i64) (.tmp 32))⟩,⟨some 34,some (27,true),.op false (.old (.binOp .leq 3 (.tmp 28) (.tmp 33) 3))⟩,⟨some 35,some (24,false),.op false (.old (.pick (.tmp 27) (.tmp 34) (.const (.bool false))))⟩,Ol 36 (.pick (.tmp 24) (.const (.bool true)) (.tmp 35))])
 (.cond (.tmp 36) (.seq (.reg (some []) [Ac 2 8])
 .ret)
 .skip))))
 (.reg (some [0,11,12,13]) [Bc 37 .add 3 13 .i64 1,Mv 13 37])))⟩)],
 []⟩
theorem r18_ok : resFun (progU ()) hint live 18 Try.f18 = some r18:=by kernel_rfl
def r19 : RFun :=
⟨.seq (.reg (some [0]) [Ac 2 0])
 (.seq (.seq (.reg (some [0]) [Mv 4 0,Ro 5 (.lenS (.tmp 4)),Bc 6 .gtr 3 5 .i64 5])
 (.cond (.tmp 6) (.seq (.reg (some []) [Ac 2 4])
 .ret)
 .skip))
 (.seq (.seq (.reg (some [0]) [Mv 7 0,Ro 8 (.lenS (.tmp 7)),Bc 9 .lss 3 8 .i64 2])
 (.cond (.tmp 9) (.seq (.reg (some []) [Ac 2 8])
 .ret)
 .skip))
 (.seq (.seq (.reg (some [0]) [Ac 3 0])
 (.block 0 (.loop 6 (some [0,3]) (some [0,3]))))
 (.seq (.reg (some []) [Ac 2 0])
 .ret)))),
 [.tmp 2],
 [(6,⟨some [0,3],some [0,3],.seq (.seq (.reg (some [0,3]) [Mv 10 3,Mv 11 0,Ro 12 (.lenS (.tmp 11)),Bt 13 .lss 3 10 12])
 (.cond (.tmp 13) .skip
 (.exit 0 (some []))))
 (.seq (.block 1 (.seq (.draw (some [0,3]) 28 [Dr (Mv 16 0) 0 [2,3,4,5,6,7,8,9,10,11,12,13,14,15,16,17,18,19,20,21,22,23,24,25,26,27],Dr (Mv 17 3) 1 [2,3,4,5,6,7,8,9,10,11,12,13,14,15,16,17,18,19,20,21,22,23,24,25,26,27],Dr (Ix 18 1 16 17) 2 [3,4,5,6,7,8,9,10,11,12,13,14,15,16,17,18,19,20,21,22,23,24,25,26,27],Db (L1 19 18) 3 18 [4,5,6,7,8,9,10,11,12,13,14,15,16,17,18,19,20,21,22,23,24,25,26,27],Dr (Bc 20 .lss 3 19 .i64 0) 4 [5,6,7,8,9,10,11,12,13,14,15,16,17,18,19,20,21,22,23,24,25,26,27],Dr (Mv 21 20) 5 [6,7,8,9,10,11,12,13,14,15,16,17,18,19,20,21,22,23,24,25,26,27],⟨⟨some 22,some (21,false),.op false (.old (.move (.tmp 0)))⟩,6,.none,[8,9,10,11,12,13,14,15,16,17,18,19,20,21,22,23,24,25,26,27],false,true⟩,⟨⟨some 23,some (21,false),.op false (.old (.move (.tmp 3)))⟩,7,.none,[8,9,10,11,12,13,14,15,16,17,18,19,20,21,22,23,24,25,26,27],false,true⟩,⟨⟨some 24,some (21,false),.op false (.ixS 1 (.tmp 22) (.tmp 23))⟩,8,.none,[9,10,11,12,13,14,15,16,17,18,19,20,21,22,23,24,25,26,27],false,true⟩,⟨⟨some 25,some (21,false),.op false (.load1 (.int .i64) (.tmp 24))⟩,9,.blk (.tmp 24),[10,11,12,13,14,15,16,17,18,19,20,21,22,23,24,25,26,27],false,true⟩,⟨⟨some 26,some (21,false),.op false (.old (.binOp .gtr 3 (.tmp 25) (.const (.int .i64 31)) 3))⟩,10,.none,[11,12,13,14,15,16,17,18,19,20,21,22,23,24,25,26,27],false,true⟩,Dr (Ol 27 (.pick (.tmp 21) (.const (.bool true)) (.tmp 26))) 11 [12,13,14,15,16,17,18,19,20,21,22,23,24,25,26,27],Dr (Mv 28 27) 12 [13,14,15,16,17,18,19,20,21,22,23,24,25,26,27],⟨⟨some 29,some (28,false),.op false (.old (.move (.tmp 3)))⟩,13,.none,[14,15,16,17,18,19,20,21,22,23,24,25,26,27],false,true⟩,⟨⟨some 30,some (28,false),.op false (.old (.binOp .gtr 3 (.tmp 29) (.const (.int .i64 0)) 3))⟩,14,.none,[15,16,17,18,19,20,21,22,23,24,25,26,27],false,true⟩,⟨⟨some 31,some (28,false),.op false (.old (.move (.tmp 30)))⟩,15,.none,[16,17,18,19,20,21,22,23,24,25,26,27],false,true⟩,⟨⟨some 32,some (31,true),.op false (.old (.move (.tmp 0)))⟩,16,.none,[18,19,25,26,27],false,true⟩,⟨⟨some 33,some (31,true),.op false (.old (.move (.tmp 3)))⟩,17,.none,[18,19,25,26,27],false,true⟩,⟨⟨some 34,some (31,true),.op false (.ixS 1 (.tmp 32) (.tmp 33))⟩,18,.none,[19,25,26,27],false,true⟩,⟨⟨some 35,some (31,true),.op false (.load1 (.int .i64) (.tmp 34))⟩,19,.blk (.tmp 34),[25,26,27],false,true⟩,⟨⟨some 36,some (31,true),.op false (.old (.move (.tmp 0)))⟩,20,.none,[23,24,25,26,27],false,true⟩,⟨⟨some 37,some (31,true),.op false (.old (.move (.tmp 3)))⟩,21,.none,[22,23,24,25,26,27],false,true⟩,⟨⟨some 38,some (31,true),.op false (.old (.binOp .sub 3 (.tmp 37) (.const (.int .i64 1)) 3))⟩,22,.none,[23,24,25,26,27],false,true⟩,⟨⟨some 39,some (31,true),.op false (.ixS 1 (.tmp 36) (.tmp 38))⟩,23,.none,[24,25,26,27],false,true⟩,⟨⟨some 40,some (31,true),.op false (.load1 (.int .i64) (.tmp 39))⟩,24,.blk (.tmp 39),[25,26,27],false,true⟩,⟨⟨some 41,some (31,true),.op false (.old (.binOp .leq 3 (.tmp 35) (.tmp 40) 3))⟩,25,.none,[26,27],false,true⟩,⟨⟨some 42,some (28,false),.op false (.old (.pick (.tmp 31) (.tmp 41) (.const (.bool false))))⟩,26,.none,[27],false,true⟩,Dr (Ol 43 (.pick (.tmp 28) (.const (.bool true)) (.tmp 42))) 27 []])
 (.cond (.tmp 43) (.seq (.reg (some []) [Ac 2 8])
 .ret)
 .skip)))
 (.reg (some [0,3]) [Mv 14 3,Bc 15 .add 3 14 .i64 1,As 3 15]))⟩)],
 []⟩
theorem r19_ok : resFun (progU ()) hint live 19 Try.f19 = some r19:=by kernel_rfl
def r20 : RFun :=
⟨.seq (.reg (some [0,1]) [Ol 4 (.assign (.const (.bool false)))])
 (.seq (.seq (.reg (some [0,1]) [Mv 6 0,Ro 7 (.lenS (.tmp 6)),Mv 8 1,Ro 9 (.lenS (.tmp 8)),Bt 10 .neq 3 7 9])
 (.cond (.tmp 10) (.seq (.reg (some []) [Ol 4 (.assign (.const (.bool false)))])
 .ret)
 .skip))
 (.seq (.seq (.reg (some [0,1]) [Ac 5 0])
 (.block 0 (.loop 4 (some [0,1,5]) (some [0,1,5]))))
 (.seq (.reg (some []) [Ol 4 (.assign (.const (.bool true)))])
 .ret))),
 [.tmp 4],
 [(4,⟨some [0,1,5],some [0,1,5],.seq (.seq (.reg (some [0,1,5]) [Mv 11 5,Mv 12 0,Ro 13 (.lenS (.tmp 12)),Bt 14 .lss 3 11 13])
 (.cond (.tmp 14) .skip
 (.exit 0 (some []))))
 (.seq (.block 1 (.seq (.draw (some [0,1,5]) 9 [Dr (Mv 17 0) 0 [2,3,8],Dr (Mv 18 5) 1 [2,3,8],Dr (Ix 19 1 17 18) 2 [3,8],Db (L1 20 19) 3 19 [8],Dr (Mv 21 1) 4 [6,7,8],Dr (Mv 22 5) 5 [6,7,8],Dr (Ix 23 1 21 22) 6 [7,8],Db (L1 24 23) 7 23 [8],Dr (Bt 25 .neq 3 20 24) 8 []])
 (.cond (.tmp 25) (.seq (.reg (some []) [Ol 4 (.assign (.const (.bool false)))])
 .ret)
 .skip)))
 (.reg (some [0,1,5]) [Mv 15 5,Bc 16 .add 3 15 .i64 1,As 5 16]))⟩)],
 []⟩
theorem r20_ok : resFun (progU ()) hint live 20 Try.f20 = some r20:=by kernel_rfl
def r21 : RFun :=
⟨.seq (.reg (some [0,1]) [Ol 4 (.assign (.const (.bool false)))])
 (.seq (.seq (.reg (some [0,1]) [Mv 6 0,Ro 7 (.lenS (.tmp 6)),Mv 8 1,Ro 9 (.lenS (.tmp 8)),Bt 10 .neq 3 7 9])
 (.cond (.tmp 10) (.seq (.reg (some []) [Ol 4 (.assign (.const (.bool false)))])
 .ret)
 .skip))
 (.seq (.seq (.reg (some [0,1]) [Ac 5 0])
 (.block 0 (.loop 4 (some [0,1,5]) (some [0,1,5]))))
 (.seq (.reg (some []) [Ol 4 (.assign (.const (.bool true)))])
 .ret))),
 [.tmp 4],
 [(4,⟨some [0,1,5],some [0,1,5],.seq (.seq (.reg (some [0,1,5]) [Mv 11 5,Mv 12 0,Ro 13 (.lenS (.tmp 12)),Bt 14 .lss 3 11 13])
 (.cond (.tmp 14) .skip
 (.exit 0 (some []))))
 (.seq (.block 1 (.seq (.draw (some [0,1,5]) 10 [Dr (Mv 17 0) 0 [2,3,8,9],Dr (Mv 18 5) 1 [2,3,8,9],Dr (Ix 19 1 17 18) 2 [3,8,9],Db (Ro 20 (.load1 .slice (.tmp 19))) 3 19 [8,9],Dr (Mv 21 1) 4 [6,7,8,9],Dr (Mv 22 5) 5 [6,7,8,9],Dr (Ix 23 1 21 22) 6 [7,8,9],Db (Ro 24 (.load1 .slice (.tmp 23))) 7 23 [8,9],⟨Ca 25 20 [.tmp 20,.tmp 24] (some (.val (.one .bool))),8,.all,[9],false,false⟩,Dr (Ol 26 (.unOp .not 4 (.tmp 25))) 9 []])
 (.cond (.tmp 26) (.seq (.reg (some []) [Ol 4 (.assign (.const (.bool false)))])
 .ret)
 .skip)))
 (.reg (some [0,1,5]) [Mv 15 5,Bc 16 .add 3 15 .i64 1,As 5 16]))⟩)],
 []⟩
theorem r21_ok : resFun (progU ()) hint live 21 Try.f21 = some r21:=by kernel_rfl
def r22 : RFun :=
⟨.seq (.reg (some [0,1]) [Ol 4 (.assign (.const (.bool false)))])
 (.seq (.seq (.reg (some [0,1]) [Mv 6 0,Ro 7 (.lenS (.tmp 6)),Mv 8 1,Ro 9 (.lenS (.tmp 8)),Bt 10 .neq 3 7 9])
 (.cond (.tmp 10) (.seq (.reg (some []) [Ol 4 (.assign (.const (.bool false)))])
 .ret)
 .skip))
 (.seq (.seq (.reg (some [0,1]) [Ac 5 0])
 (.block 0 (.loop 4 (some [0,1,5]) (some [0,1,5]))))
 (.seq (.reg (some []) [Ol 4 (.assign (.const (.bool true)))])
 .ret))),
 [.tmp 4],
 [(4,⟨some [0,1,5],some [0,1,5],.seq (.seq (.reg (some [0,1,5]) [Mv 11 5,Mv 12 0,Ro 13 (.lenS (.tmp 12)),Bt 14 .lss 3 11 13])
 (.cond (.tmp 14) .skip
 (.exit 0 (some []))))
 (.seq (.block 1 (.seq (.draw (some [0,1,5]) 10 [Dr (Mv 17 0) 0 [2,3,8,9],Dr (Mv 18 5) 1 [2,3,8,9],Dr (Ix 19 1 17 18) 2 [3,8,9],Db (Ro 20 (.load1 .slice (.tmp 19))) 3 19 [8,9],Dr (Mv 21 1) 4 [6,7,8,9],Dr (Mv 22 5) 5 [6,7,8,9],Dr (Ix 23 1 21 22) 6 [7,8,9],Db (Ro 24 (.load1 .slice (.tmp 23))) 7 23 [8,9],⟨Ca 25 28 [.tmp 20,.tmp 24] (some (.val (.one .bool))),8,.all,[9],false,false⟩,Dr (Ol 26 (.unOp .not 4 (.tmp 25))) 9 []])
 (.cond (.tmp 26) (.seq (.reg (some []) [Ol 4 (.assign (.const (.bool false)))])
 .ret)
 .skip)))
 (.reg (some [0,1,5]) [Mv 15 5,Bc 16 .add 3 15 .i64 1,As 5 16]))⟩)],
 []⟩
theorem r22_ok : resFun (progU ()) hint live 22 Try.f22 = some r22:=by kernel_rfl
end Go.Proofs.Ytogliemiljhliaa
