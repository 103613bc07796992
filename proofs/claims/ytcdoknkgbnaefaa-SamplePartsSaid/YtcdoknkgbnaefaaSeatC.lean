import Derived.Test.YtcdoknkgbnaefaaSeat0
import Derived.Test.YtcdoknkgbnaefaaSymS
set_option linter.unusedSimpArgs false
set_option linter.unusedVariables false
namespace Go.Proofs.Ytcdoknkgbnaefaa
open Go.Sim
set_option maxRecDepth 100000
def r27 : RFun :=
⟨.seq (.reg (some [0,1]) [⟨some 3,none,.op true (.box 2 (.tmp 1))⟩,Ac 4 0,Ac 5 0])
 (.seq (.seq (.reg (some [0,3]) [Mv 16 0,Ca 17 39 [.tmp 16] (some (.val (.one (.int .i64)))),As 6 17])
 (.seq (.reg (some [0,3,6]) [Mv 18 6,Bc 19 .neq 25 18 .i64 0])
 (.cond (.tmp 19) (.seq (.reg (some [6]) [Mv 20 6,Ac 4 0,As 5 20])
 .ret)
 .skip)))
 (.seq (.seq (.reg (some [0,3]) [Ld 21 3,Ca 22 40 [.tmp 21] (some (.val (.one (.int .i64)))),Bc 23 .neq 25 22 .i64 0,Mv 24 23,⟨some 25,some (24,false),.op false (.fieldAddr 0 (.tmp 3))⟩,⟨some 26,some (24,false),.op false (.load1 (.int .i64) (.tmp 25))⟩,⟨some 27,some (24,false),.op false (.old (.binOp .lss 2 (.tmp 26) (.const (.int .i64 0)) 2))⟩,Ol 28 (.pick (.tmp 24) (.const (.bool true)) (.tmp 27)),Mv 29 28,⟨some 30,some (29,false),.op false (.fieldAddr 0 (.tmp 3))⟩,⟨some 31,some (29,false),.op false (.load1 (.int .i64) (.tmp 30))⟩,⟨some 32,some (29,false),.op false (.fieldAddr 1 (.tmp 3))⟩,⟨some 33,some (29,false),.op false (.load1 (.int .i64) (.tmp 32))⟩,⟨some 34,some (29,false),.op false (.old (.binOp .gtr 2 (.tmp 31) (.tmp 33) 2))⟩,Ol 35 (.pick (.tmp 29) (.const (.bool true)) (.tmp 34))])
 (.cond (.tmp 35) (.seq (.reg (some []) [Ac 4 0,Ac 5 8])
 .ret)
 .skip))
 (.seq (.reg (some [0,3]) [Mv 36 0,Ro 37 (.lenS (.tmp 36)),Ro 38 (.mkSlice 1 [.int .i64 0] (.tmp 37) (.tmp 37)),As 7 38])
 (.seq (.seq (.reg (some [0,3,7]) [Mv 39 0,Ro 40 (.lenS (.tmp 39)),Ol 41 (.move (.const (.int .i64 0)))])
 (.block 0 (.loop 8 none (some [3,7,39,40,41]))))
 (.seq (.reg (some [3,7]) [Mv 54 7,Ca 55 41 [.tmp 54] (some (.tup []))])
 (.seq (.reg (some [3,7]) [Ac 10 1])
 (.seq (.seq (.reg (some [3,7,10]) [Mv 56 7,Ro 57 (.lenS (.tmp 56)),Ol 58 (.move (.const (.int .i64 0)))])
 (.block 2 (.loop 15 (some [3,7,10,56,57,58]) (some [3,7,10,56,57,58]))))
 (.seq (.seq (.reg (some [10]) [Mv 87 10,Bc 88 .gtr 3 87 .i64 1000000])
 (.cond (.tmp 88) (.seq (.reg (some []) [Ac 4 0,Ac 5 6])
 .ret)
 .skip))
 (.seq (.reg (some [10]) [Mv 89 10,As 4 89,Ac 5 0])
 .ret))))))))),
 [.tmp 4,.tmp 5],
 [(8,⟨none,some [3,7,39,40,41],.seq (.reg (some [3,7,39,40,41]) [Bt 42 .lss 3 41 40])
 (.seq (.cond (.tmp 42) .skip
 (.exit 0 (some [3,7])))
 (.seq (.block 1 (.seq (.reg (some [3,7,39,40,41]) [Mv 43 41,Ix 44 1 39 41,L1 45 44,As 8 43,As 9 45])
 (.reg (some [3,7,8,9,39,40,41]) [Mv 46 7,Mv 47 8,Mv 48 9,Mv 49 9,Ol 50 (.unOp .neg 3 (.tmp 49)),⟨some 51,none,.op false (.old (.call ⟨.builtin .max,#[.tmp 48,.tmp 50],#[3,3]⟩))⟩,Ix 52 1 46 47,⟨none,none,.op false (.store 1 (.tmp 52) (.tmp 51))⟩])))
 (.reg (some [3,7,39,40,41]) [Bc 53 .add 3 41 .i64 1,Mv 41 53])))⟩),(15,⟨some [3,7,10,56,57,58],some [3,7,10,56,57,58],.seq (.reg (some [3,7,10,56,57,58]) [Bt 59 .lss 3 58 57])
 (.seq (.cond (.tmp 59) .skip
 (.exit 2 (some [10])))
 (.seq (.block 3 (.seq (.reg (some [3,7,10,56,57,58]) [Mv 60 58,Ix 61 1 56 58,L1 62 61,As 11 60,As 12 62])
 (.seq (.reg (some [3,7,10,11,12,56,57,58]) [Mv 64 11,Mv 65 7,Ro 66 (.lenS (.tmp 65)),Ca 67 42 [.tmp 64,.tmp 66] (some (.tup [.agg [.int .i64,.int .i64],.one (.int .i64)])),Mv 63 67,Ex 68 63 0,Ex 69 63 1,⟨some 13,none,.op true (.new 2 [.int .i64 0,.int .i64 0])⟩,⟨none,none,.op false (.store 2 (.tmp 13) (.tmp 68))⟩,As 14 69])
 (.seq (.seq (.reg (some [3,7,10,12,13,14,56,57,58]) [Mv 70 14,Bc 71 .neq 25 70 .i64 0])
 (.cond (.tmp 71) (.seq (.reg (some [14]) [Mv 72 14,Ac 4 0,As 5 72])
 .ret)
 .skip))
 (.seq (.reg (some [3,7,10,12,13,56,57,58]) [Ld 74 13,Ld 75 3,Ca 76 43 [.tmp 74,.tmp 75] (some (.tup [.one (.int .i64),.one (.int .i64)])),Mv 73 76,Ex 77 73 0,Ex 78 73 1,As 15 77,As 14 78])
 (.seq (.seq (.reg (some [3,7,10,12,14,15,56,57,58]) [Mv 79 14,Bc 80 .neq 25 79 .i64 0])
 (.cond (.tmp 80) (.seq (.reg (some [14]) [Mv 81 14,Ac 4 0,As 5 81])
 .ret)
 .skip))
 (.seq (.seq (.reg (some [3,7,10,12,15,56,57,58]) [Mv 82 15,Bc 83 .geq 3 82 .i64 0])
 (.cond (.tmp 83) (.exit 2 (some [10]))
 .skip))
 (.reg (some [3,7,12,56,57,58]) [Mv 84 12,Bc 85 .add 3 84 .i64 1,As 10 85]))))))))
 (.reg (some [3,7,10,56,57,58]) [Bc 86 .add 3 58 .i64 1,Mv 58 86])))⟩)],
 []⟩
theorem r27_ok : resFun (progU ()) hint live 27 Try.f27 = some r27:=by kernel_rfl
def r30 : RFun :=
⟨.seq (.reg (some [0]) [Ac 2 0])
 (.seq (.seq (.reg (some [0]) [Mv 4 0,Ro 5 (.lenS (.tmp 4)),Bc 6 .gtr 3 5 .i64 256])
 (.cond (.tmp 6) (.seq (.reg (some []) [Ac 2 4])
 .ret)
 .skip))
 (.seq (.seq (.reg (some [0]) [Ac 3 0])
 (.block 0 (.loop 4 none (some [0,3]))))
 (.seq (.reg (some []) [Ac 2 0])
 .ret))),
 [.tmp 2],
 [(4,⟨none,some [0,3],.seq (.seq (.reg (some [0,3]) [Mv 7 3,Mv 8 0,Ro 9 (.lenS (.tmp 8)),Bt 10 .lss 3 7 9])
 (.cond (.tmp 10) .skip
 (.exit 0 (some []))))
 (.seq (.block 1 (.seq (.reg (some [0,3]) [Mv 13 0,Mv 14 3,Ix 15 1 13 14,L1 16 15,Ol 17 (.binOp .lss 3 (.tmp 16) (.const (.int .i64 (-1000000))) 3),Mv 18 17,⟨some 19,some (18,false),.op false (.old (.move (.tmp 0)))⟩,⟨some 20,some (18,false),.op false (.old (.move (.tmp 3)))⟩,⟨some 21,some (18,false),.op false (.ixS 1 (.tmp 19) (.tmp 20))⟩,⟨some 22,some (18,false),.op false (.load1 (.int .i64) (.tmp 21))⟩,⟨some 23,some (18,false),.op false (.old (.binOp .gtr 3 (.tmp 22) (.const (.int .i64 1000000)) 3))⟩,Ol 24 (.pick (.tmp 18) (.const (.bool true)) (.tmp 23))])
 (.cond (.tmp 24) (.seq (.reg (some []) [Ac 2 8])
 .ret)
 .skip)))
 (.reg (some [0,3]) [Mv 11 3,Bc 12 .add 3 11 .i64 1,As 3 12]))⟩)],
 []⟩
theorem r30_ok : resFun (progU ()) hint live 30 Try.f30 = some r30:=by kernel_rfl
def r31 : RFun :=
⟨.seq (.reg (some [0]) [⟨some 1,none,.op true (.box 2 (.tmp 0))⟩,Ac 2 0])
 (.seq (.seq (.draw (some [1]) 28 [Dr (Fa 3 1 1) 0 [1,2,3,4,5,6,7,8,9,10,11,12,13,14,15,16,17,18,19,20,21,22,23,24,25,26,27],Db (L1 4 3) 1 3 [2,3,4,5,6,7,8,9,10,11,12,13,14,15,16,17,18,19,20,21,22,23,24,25,26,27],Dr (Bc 5 .lss 2 4 .i64 1) 2 [3,4,5,6,7,8,9,10,11,12,13,14,15,16,17,18,19,20,21,22,23,24,25,26,27],Dr (Mv 6 5) 3 [4,5,6,7,8,9,10,11,12,13,14,15,16,17,18,19,20,21,22,23,24,25,26,27],⟨⟨some 7,some (6,false),.op false (.fieldAddr 1 (.tmp 1))⟩,4,.none,[5,6,7,8,9,10,11,12,13,14,15,16,17,18,19,20,21,22,23,24,25,26,27],false,true⟩,⟨⟨some 8,some (6,false),.op false (.load1 (.int .i64) (.tmp 7))⟩,5,.blk (.tmp 7),[6,7,8,9,10,11,12,13,14,15,16,17,18,19,20,21,22,23,24,25,26,27],false,true⟩,⟨⟨some 9,some (6,false),.op false (.old (.binOp .gtr 2 (.tmp 8) (.const (.int .i64 1000000000000000000)) 2))⟩,6,.none,[7,8,9,10,11,12,13,14,15,16,17,18,19,20,21,22,23,24,25,26,27],false,true⟩,Dr (Ol 10 (.pick (.tmp 6) (.const (.bool true)) (.tmp 9))) 7 [8,9,10,11,12,13,14,15,16,17,18,19,20,21,22,23,24,25,26,27],Dr (Mv 11 10) 8 [9,10,11,12,13,14,15,16,17,18,19,20,21,22,23,24,25,26,27],⟨⟨some 12,some (11,false),.op false (.fieldAddr 0 (.tmp 1))⟩,9,.none,[10,11,12,13,14,15,16,17,18,19,20,21,22,23,24,25,26,27],false,true⟩,⟨⟨some 13,some (11,false),.op false (.load1 (.int .i64) (.tmp 12))⟩,10,.blk (.tmp 12),[11,12,13,14,15,16,17,18,19,20,21,22,23,24,25,26,27],false,true⟩,⟨⟨some 14,some (11,false),.op false (.old (.binOp .lss 2 (.tmp 13) (.const (.int .i64 (-1000000000000000000))) 2))⟩,11,.none,[12,13,14,15,16,17,18,19,20,21,22,23,24,25,26,27],false,true⟩,Dr (Ol 15 (.pick (.tmp 11) (.const (.bool true)) (.tmp 14))) 12 [13,14,15,16,17,18,19,20,21,22,23,24,25,26,27],Dr (Mv 16 15) 13 [14,15,16,17,18,19,20,21,22,23,24,25,26,27],⟨⟨some 17,some (16,false),.op false (.fieldAddr 0 (.tmp 1))⟩,14,.none,[15,16,17,18,19,20,21,22,23,24,25,26,27],false,true⟩,⟨⟨some 18,some (16,false),.op false (.load1 (.int .i64) (.tmp 17))⟩,15,.blk (.tmp 17),[16,17,18,19,20,21,22,23,24,25,26,27],false,true⟩,⟨⟨some 19,some (16,false),.op false (.old (.binOp .gtr 2 (.tmp 18) (.const (.int .i64 1000000000000000000)) 2))⟩,16,.none,[17,18,19,20,21,22,23,24,25,26,27],false,true⟩,Dr (Ol 20 (.pick (.tmp 16) (.const (.bool true)) (.tmp 19))) 17 [18,19,20,21,22,23,24,25,26,27],Dr (Mv 21 20) 18 [19,20,21,22,23,24,25,26,27],⟨⟨some 22,some (21,false),.op false (.fieldAddr 0 (.tmp 1))⟩,19,.none,[20,21,25,26,27],false,true⟩,⟨⟨some 23,some (21,false),.op false (.load1 (.int .i64) (.tmp 22))⟩,20,.blk (.tmp 22),[21,25,26,27],false,true⟩,⟨⟨some 25,some (21,false),.op false (.fieldAddr 1 (.tmp 1))⟩,22,.none,[23,24,25,26,27],false,true⟩,⟨⟨some 26,some (21,false),.op false (.load1 (.int .i64) (.tmp 25))⟩,23,.blk (.tmp 25),[24,25,26,27],false,true⟩,⟨⟨some 27,some (21,false),.op false (.convI .u64 (.tmp 26))⟩,24,.cvt (.tmp 26),[25,26,27],false,true⟩,⟨⟨some 24,some (21,false),.call (.func 46) [.tmp 23] (some (.val (.one (.int .u64))))⟩,21,.all,[25,26,27],false,false⟩,⟨⟨some 28,some (21,false),.call (.func 45) [.tmp 24,.tmp 27] (some (.val (.one (.int .u64))))⟩,25,.all,[26,27],false,false⟩,⟨⟨some 29,some (21,false),.op false (.old (.binOp .neq 70 (.tmp 28) (.const (.int .u64 1)) 70))⟩,26,.none,[27],false,true⟩,Dr (Ol 30 (.pick (.tmp 21) (.const (.bool true)) (.tmp 29))) 27 []])
 (.cond (.tmp 30) (.seq (.reg (some []) [Ac 2 8])
 .ret)
 .skip))
 (.seq (.reg (some []) [Ac 2 0])
 .ret)),
 [.tmp 2],
 [],
 []⟩
theorem r31_ok : resFun (progU ()) hint live 31 Try.f31 = some r31:=by kernel_rfl
def r32 : RFun :=
⟨.seq (.reg (some [0,1,2]) [⟨some 4,none,.op true (.box 2 (.tmp 1))⟩,Ol 6 (.assign (.const (.bool false)))])
 (.seq (.seq (.reg (some [0,2,4]) [Mv 11 0,Ro 12 (.lenS (.tmp 11)),Bc 13 .eql 3 12 .i64 0])
 (.cond (.tmp 13) (.seq (.reg (some []) [Ol 6 (.assign (.const (.bool true)))])
 .ret)
 .skip))
 (.seq (.reg (some [0,2,4]) [Mv 15 0,Mv 16 2,Ca 17 48 [.tmp 15,.tmp 16] (some (.val (.one (.int .i64)))),Mv 18 0,Ro 19 (.lenS (.tmp 18)),Ca 20 47 [.tmp 17,.tmp 19] (some (.tup [.agg [.int .i64,.int .i64],.one (.int .i64)])),Mv 14 20,Ex 21 14 0,Ex 22 14 1,⟨some 7,none,.op true (.new 2 [.int .i64 0,.int .i64 0])⟩,⟨none,none,.op false (.store 2 (.tmp 7) (.tmp 21))⟩,As 8 22])
 (.seq (.reg (some [4,7]) [Ld 24 7,Ld 25 4,Ca 26 49 [.tmp 24,.tmp 25] (some (.tup [.one (.int .i64),.one (.int .i64)])),Mv 23 26,Ex 27 23 0,Ex 28 23 1,As 9 27,As 10 28])
 (.seq (.reg (some [9]) [Mv 29 9,Bc 30 .geq 3 29 .i64 0,As 6 30])
 .ret)))),
 [.tmp 6],
 [],
 []⟩
theorem r32_ok : resFun (progU ()) hint live 32 Try.f32 = some r32:=by kernel_rfl
def r33 : RFun :=
⟨.seq (.reg (some [0,1,2]) [⟨some 4,none,.op true (.box 2 (.tmp 1))⟩,Ol 6 (.assign (.const (.bool false)))])
 (.seq (.reg (some [0,2,4]) [Mv 16 0,Mv 17 2,Ca 18 25 [.tmp 16,.tmp 17] (some (.tup [.one .slice,.one (.int .i64)])),Mv 15 18,Ex 19 15 0,Ex 20 15 1,As 7 19,As 8 20])
 (.seq (.reg (some [0,4,7,8]) [Mv 22 7,Ca 23 19 [.tmp 22] (some (.tup [.agg [.int .i64,.int .i64,.int .i64,.int .i64,.int .i64],.one (.int .i64)])),Mv 21 23,Ex 24 21 0,Ex 25 21 1,Ro 9 (.new 5 [.int .i64 0,.int .i64 0,.int .i64 0,.int .i64 0,.int .i64 0]),⟨none,none,.op false (.store 5 (.tmp 9) (.tmp 24))⟩,As 10 25])
 (.seq (.seq (.reg (some [0,4,7,8,9,10]) [Mv 26 8,Bc 27 .neq 25 26 .i64 0,Mv 28 27,⟨some 29,some (28,false),.op false (.old (.move (.tmp 10)))⟩,⟨some 30,some (28,false),.op false (.old (.binOp .neq 25 (.tmp 29) (.const (.int .i64 0)) 25))⟩,Ol 31 (.pick (.tmp 28) (.const (.bool true)) (.tmp 30)),Mv 32 31,⟨some 33,some (32,false),.op false (.old (.move (.tmp 7)))⟩,⟨some 34,some (32,false),.op false (.lenS (.tmp 33))⟩,⟨some 35,some (32,false),.op false (.old (.move (.tmp 0)))⟩,⟨some 36,some (32,false),.op false (.lenS (.tmp 35))⟩,⟨some 37,some (32,false),.op false (.old (.binOp .neq 3 (.tmp 34) (.tmp 36) 3))⟩,Ol 38 (.pick (.tmp 32) (.const (.bool true)) (.tmp 37)),Mv 39 38,⟨some 40,some (39,false),.op false (.old (.move (.tmp 0)))⟩,⟨some 41,some (39,false),.op false (.lenS (.tmp 40))⟩,⟨some 42,some (39,false),.op false (.old (.binOp .eql 3 (.tmp 41) (.const (.int .i64 0)) 3))⟩,Ol 43 (.pick (.tmp 39) (.const (.bool true)) (.tmp 42))])
 (.cond (.tmp 43) (.seq (.reg (some [0,7,8,10]) [Mv 44 8,Bc 45 .eql 25 44 .i64 0,Mv 46 45,⟨some 47,some (46,true),.op false (.old (.move (.tmp 10)))⟩,⟨some 48,some (46,true),.op false (.old (.binOp .eql 25 (.tmp 47) (.const (.int .i64 0)) 25))⟩,Ol 49 (.pick (.tmp 46) (.tmp 48) (.const (.bool false))),Mv 50 49,⟨some 51,some (50,true),.op false (.old (.move (.tmp 0)))⟩,⟨some 52,some (50,true),.op false (.lenS (.tmp 51))⟩,⟨some 53,some (50,true),.op false (.old (.binOp .eql 3 (.tmp 52) (.const (.int .i64 0)) 3))⟩,Ol 54 (.pick (.tmp 50) (.tmp 53) (.const (.bool false))),Mv 55 54,⟨some 56,some (55,true),.op false (.old (.move (.tmp 7)))⟩,⟨some 57,some (55,true),.op false (.lenS (.tmp 56))⟩,⟨some 58,some (55,true),.op false (.old (.binOp .eql 3 (.tmp 57) (.const (.int .i64 0)) 3))⟩,Ol 59 (.pick (.tmp 55) (.tmp 58) (.const (.bool false))),As 6 59])
 .ret)
 .skip))
 (.seq (.reg (some [0,4,9]) [Ro 61 (.ixA 5 1 (.tmp 9) (.const (.int .i64 2))),L1 62 61,Ro 63 (.ixA 5 1 (.tmp 9) (.const (.int .i64 3))),L1 64 63,Bt 65 .add 3 62 64,Mv 66 0,Ro 67 (.lenS (.tmp 66)),Ca 68 47 [.tmp 65,.tmp 67] (some (.tup [.agg [.int .i64,.int .i64],.one (.int .i64)])),Mv 60 68,Ex 69 60 0,Ex 70 60 1,⟨some 11,none,.op true (.new 2 [.int .i64 0,.int .i64 0])⟩,⟨none,none,.op false (.store 2 (.tmp 11) (.tmp 69))⟩,As 12 70])
 (.seq (.reg (some [4,9,11]) [Ld 72 11,Ld 73 4,Ca 74 49 [.tmp 72,.tmp 73] (some (.tup [.one (.int .i64),.one (.int .i64)])),Mv 71 74,Ex 75 71 0,Ex 76 71 1,As 13 75,As 14 76])
 (.seq (.reg (some [9,13]) [Ro 77 (.ixA 5 1 (.tmp 9) (.const (.int .i64 0))),L1 78 77,Bc 79 .eql 3 78 .i64 0,Mv 80 79,⟨some 81,some (80,true),.op false (.old (.move (.tmp 13)))⟩,⟨some 82,some (80,true),.op false (.old (.binOp .geq 3 (.tmp 81) (.const (.int .i64 0)) 3))⟩,Ol 83 (.pick (.tmp 80) (.tmp 82) (.const (.bool false))),As 6 83])
 .ret)))))),
 [.tmp 6],
 [],
 []⟩
theorem r33_ok : resFun (progU ()) hint live 33 Try.f33 = some r33:=by kernel_rfl
def r36 : RFun :=
⟨.seq (.reg (some [0]) [Ac 2 0])
 (.seq (.seq (.reg (some [0]) [Mv 3 0])
 (.block 0 (.seq (.reg (some [3]) [Bc 5 .eql 3 3 .i64 0,As 4 5])
 (.cond (.tmp 4) (.seq (.reg (some []) [Ac 2 0])
 .ret)
 (.seq (.reg (some [3]) [Ol 7 (.binOp .eql 3 (.tmp 3) (.const (.int .i64 (-3))) 3),As 6 7])
 (.cond (.tmp 6) (.seq (.reg (some []) [Ac 2 1])
 .ret)
 (.seq (.reg (some [3]) [Ol 9 (.binOp .eql 3 (.tmp 3) (.const (.int .i64 (-1))) 3),As 8 9])
 (.cond (.tmp 8) (.seq (.reg (some []) [Ac 2 2])
 .ret)
 (.seq (.reg (some [3]) [Bc 11 .eql 3 3 .i64 1,As 10 11])
 (.cond (.tmp 10) (.seq (.reg (some []) [Ac 2 3])
 .ret)
 (.seq (.reg (some [3]) [Bc 13 .eql 3 3 .i64 3,As 12 13])
 (.cond (.tmp 12) (.seq (.reg (some []) [Ac 2 4])
 .ret)
 .skip))))))))))))
 (.seq (.reg (some []) [Ol 2 (.assign (.const (.int .i64 (-1))))])
 .ret)),
 [.tmp 2],
 [],
 []⟩
theorem r36_ok : resFun (progU ()) hint live 36 Try.f36 = some r36:=by kernel_rfl
def r37 : RFun :=
⟨.seq (.reg (some [0]) [Ac 2 0])
 (.seq (.seq (.reg (some [0]) [Mv 3 0])
 (.block 0 (.seq (.reg (some [3]) [Bc 5 .eql 3 3 .i64 0,As 4 5])
 (.cond (.tmp 4) (.seq (.reg (some []) [Ac 2 0])
 .ret)
 (.seq (.reg (some [3]) [Ol 7 (.binOp .eql 3 (.tmp 3) (.const (.int .i64 (-3))) 3),As 6 7])
 (.cond (.tmp 6) (.seq (.reg (some []) [Ac 2 1])
 .ret)
 (.seq (.reg (some [3]) [Ol 9 (.binOp .eql 3 (.tmp 3) (.const (.int .i64 (-1))) 3),As 8 9])
 (.cond (.tmp 8) (.seq (.reg (some []) [Ac 2 2])
 .ret)
 (.seq (.reg (some [3]) [Bc 11 .eql 3 3 .i64 1,As 10 11])
 (.cond (.tmp 10) (.seq (.reg (some []) [Ac 2 3])
 .ret)
 (.seq (.reg (some [3]) [Bc 13 .eql 3 3 .i64 3,As 12 13])
 (.cond (.tmp 12) (.seq (.reg (some []) [Ac 2 4])
 .ret)
 .skip))))))))))))
 (.seq (.reg (some []) [Ol 2 (.assign (.const (.int .i64 (-1))))])
 .ret)),
 [.tmp 2],
 [],
 []⟩
theorem r37_ok : resFun (progU ()) hint live 37 Try.f37 = some r37:=by kernel_rfl
def r39 : RFun :=
⟨.seq (.reg (some [0]) [Ac 2 0])
 (.seq (.seq (.reg (some [0]) [Mv 5 0,Ro 6 (.lenS (.tmp 5)),Bc 7 .gtr 3 6 .i64 256])
 (.cond (.tmp 7) (.seq (.reg (some []) [Ac 2 4])
 .ret)
 .skip))
 (.seq (.seq (.reg (some [0]) [Mv 8 0,Ro 9 (.lenS (.tmp 8)),Ol 10 (.move (.const (.int .i64 0)))])
 (.block 0 (.loop 4 none (some [8,9,10]))))
 (.seq (.reg (some []) [Ac 2 0])
 .ret))),
 [.tmp 2],
 [(4,⟨none,some [8,9,10],.seq (.reg (some [8,9,10]) [Bt 11 .lss 3 10 9])
 (.seq (.cond (.tmp 11) .skip
 (.exit 0 (some [])))
 (.seq (.block 1 (.seq (.reg (some [8,9,10]) [Ix 12 1 8 10,L1 13 12,As 4 13])
 (.seq (.reg (some [4,8,9,10]) [Mv 14 4,Ol 15 (.binOp .lss 3 (.tmp 14) (.const (.int .i64 (-1000000))) 3),Mv 16 15,⟨some 17,some (16,false),.op false (.old (.move (.tmp 4)))⟩,⟨some 18,some (16,false),.op false (.old (.binOp .gtr 3 (.tmp 17) (.const (.int .i64 1000000)) 3))⟩,Ol 19 (.pick (.tmp 16) (.const (.bool true)) (.tmp 18))])
 (.cond (.tmp 19) (.seq (.reg (some []) [Ac 2 8])
 .ret)
 .skip))))
 (.reg (some [8,9,10]) [Bc 20 .add 3 10 .i64 1,Mv 10 20])))⟩)],
 []⟩
theorem r39_ok : resFun (progU ()) hint live 39 Try.f39 = some r39:=by kernel_rfl
def r40 : RFun :=
⟨.seq (.reg (some [0]) [⟨some 1,none,.op true (.box 2 (.tmp 0))⟩,Ac 2 0])
 (.seq (.seq (.reg (some [1]) [Fa 3 1 1,L1 4 3,Bc 5 .lss 2 4 .i64 1,Mv 6 5,⟨some 7,some (6,false),.op false (.fieldAddr 1 (.tmp 1))⟩,⟨some 8,some (6,false),.op false (.load1 (.int .i64) (.tmp 7))⟩,⟨some 9,some (6,false),.op false (.old (.binOp .gtr 2 (.tmp 8) (.const (.int .i64 1000000000000000000)) 2))⟩,Ol 10 (.pick (.tmp 6) (.const (.bool true)) (.tmp 9)),Mv 11 10,⟨some 12,some (11,false),.op false (.fieldAddr 0 (.tmp 1))⟩,⟨some 13,some (11,false),.op false (.load1 (.int .i64) (.tmp 12))⟩,⟨some 14,some (11,false),.op false (.old (.binOp .lss 2 (.tmp 13) (.const (.int .i64 (-1000000000000000000))) 2))⟩,Ol 15 (.pick (.tmp 11) (.const (.bool true)) (.tmp 14)),Mv 16 15,⟨some 17,some (16,false),.op false (.fieldAddr 0 (.tmp 1))⟩,⟨some 18,some (16,false),.op false (.load1 (.int .i64) (.tmp 17))⟩,⟨some 19,some (16,false),.op false (.old (.binOp .gtr 2 (.tmp 18) (.const (.int .i64 1000000000000000000)) 2))⟩,Ol 20 (.pick (.tmp 16) (.const (.bool true)) (.tmp 19))])
 (.cond (.tmp 20) (.seq (.reg (some []) [Ac 2 8])
 .ret)
 .skip))
 (.seq (.seq (.draw (some [1]) 8 [Dr (Fa 21 0 1) 0 [1,2,5,6,7],Db (L1 22 21) 1 21 [2,5,6,7],Dr (Fa 24 1 1) 3 [4,5,6,7],Db (L1 25 24) 4 24 [5,6,7],⟨Ca 23 51 [.tmp 22] (some (.val (.one (.int .u64)))),2,.all,[5,6,7],false,false⟩,⟨Ca 26 51 [.tmp 25] (some (.val (.one (.int .u64)))),5,.all,[6,7],false,false⟩,⟨Ca 27 50 [.tmp 23,.tmp 26] (some (.val (.one (.int .u64)))),6,.all,[7],false,false⟩,Dr (Bc 28 .neq 70 27 .u64 1) 7 []])
 (.cond (.tmp 28) (.seq (.reg (some []) [Ac 2 8])
 .ret)
 .skip))
 (.seq (.reg (some []) [Ac 2 0])
 .ret))),
 [.tmp 2],
 [],
 []⟩
theorem r40_ok : resFun (progU ()) hint live 40 Try.f40 = some r40:=by kernel_rfl
def r41 : RFun :=
⟨.seq (.reg (some [0]) [Mv 3 0,Ro 4 (.lenS (.tmp 3)),As 2 4])
 (.reg (some [0,2]) [Mv 5 0,Mv 6 2,Mv 7 2,Ro 8 (.convI .u64 (.tmp 7)),Ca 9 53 [.tmp 8] (some (.val (.one (.int .i64)))),Ca 10 52 [.tmp 5,.const (.int .i64 0),.tmp 6,.tmp 9] (some (.tup []))]),
 [],
 [],
 []⟩
theorem r41_ok : resFun (progU ()) hint live 41 Try.f41 = some r41:=by kernel_rfl
def r42 : RFun :=
⟨.seq (.reg (some [0,1]) [⟨some 4,none,.op true (.new 2 [.int .i64 0,.int .i64 0])⟩,Ac 5 0])
 (.seq (.seq (.reg (some [0,1,4]) [Mv 9 1,Bc 10 .eql 2 9 .i64 0])
 (.cond (.tmp 10) (.seq (.reg (some [4]) [Ro 11 (.build [.int .i64 0,.int .i64 0] []),⟨none,none,.op false (.store 2 (.tmp 4) (.tmp 11))⟩,Ac 5 18])
 .ret)
 .skip))
 (.seq (.reg (some [0,1,4]) [Mv 12 0,Ca 13 51 [.tmp 12] (some (.val (.one (.int .u64)))),Mv 14 1,Ca 15 51 [.tmp 14] (some (.val (.one (.int .u64)))),As 6 13,As 7 15])
 (.seq (.reg (some [0,1,4,6,7]) [Mv 16 6,Mv 17 7,Ca 18 50 [.tmp 16,.tmp 17] (some (.val (.one (.int .u64)))),As 8 18])
 (.seq (.draw (some [0,1,4,6,7,8]) 16 [Dr (Mv 19 0) 0 [1,4,11,12,13,14,15],Dr (Bc 20 .lss 2 19 .i64 0) 1 [4,11,12,13,14,15],Dr (Mv 21 1) 2 [3,4,11,12,13,14,15],Dr (Bc 22 .lss 2 21 .i64 0) 3 [4,11,12,13,14,15],Dr (Bt 23 .neq 4 20 22) 4 [11,12,13,14,15],Dr (Mv 24 6) 5 [7,11,12,13,14,15],Dr (Mv 25 8) 6 [7,11,12,13,14,15],Dr (Bt 26 .quo 70 24 25) 7 [11,12,13,14,15],Dr (Mv 27 7) 8 [10,11,12,13,14,15],Dr (Mv 28 8) 9 [10,11,12,13,14,15],Dr (Bt 29 .quo 70 27 28) 10 [11,12,13,14,15],⟨Ca 30 54 [.tmp 23,.tmp 26,.tmp 29] (some (.tup [.agg [.int .i64,.int .i64],.one (.int .i64)])),11,.all,[12,13,14,15],false,false⟩,Dr (Ex 31 30 0) 12 [14,15],Dr (Ex 32 30 1) 13 [14,15],⟨⟨none,none,.op false (.store 2 (.tmp 4) (.tmp 31))⟩,14,.blk (.tmp 4),[15],true,true⟩,Dr (As 5 32) 15 []])
 .ret)))),
 [.agg 4 2 [.int .i64,.int .i64],.tmp 5],
 [],
 []⟩
theorem r42_ok : resFun (progU ()) hint live 42 Try.f42 = some r42:=by kernel_rfl
def r43 : RFun :=
⟨.seq (.reg (some [0,1]) [⟨some 2,none,.op true (.box 2 (.tmp 0))⟩,⟨some 3,none,.op true (.box 2 (.tmp 1))⟩,Ac 4 0,Ac 5 0])
 (.seq (.seq (.reg (some [2,3]) [Ld 7 2,Ld 8 3,Ca 9 55 [.tmp 7,.tmp 8] (some (.val (.one (.int .i64)))),As 6 9])
 (.seq (.reg (some [2,3,6]) [Mv 10 6,Bc 11 .neq 25 10 .i64 0])
 (.cond (.tmp 11) (.seq (.reg (some [6]) [Mv 12 6,Ac 4 0,As 5 12])
 .ret)
 .skip)))
 (.seq (.reg (some [2,3]) [Ld 13 2,Ld 14 3,Ca 15 56 [.tmp 13,.tmp 14] (some (.val (.one (.int .i64)))),As 4 15,Ac 5 0])
 .ret)),
 [.tmp 4,.tmp 5],
 [],
 []⟩
theorem r43_ok : resFun (progU ()) hint live 43 Try.f43 = some r43:=by kernel_rfl
def r44 : RFun :=
⟨.seq (.reg (some [0]) [Ac 2 0])
 (.seq (.seq (.reg (some [0]) [Mv 3 0,Bc 4 .lss 3 3 .i64 0])
 (.cond (.tmp 4) (.seq (.reg (some [0]) [Mv 5 0,Ol 6 (.unOp .neg 3 (.tmp 5)),As 2 6])
 .ret)
 .skip))
 (.seq (.reg (some [0]) [Mv 7 0,As 2 7])
 .ret)),
 [.tmp 2],
 [],
 []⟩
theorem r44_ok : resFun (progU ()) hint live 44 Try.f44 = some r44:=by kernel_rfl
def r45 : RFun :=
⟨.seq (.reg (some [0,1]) [Ol 4 (.assign (.const (.int .u64 0)))])
 (.seq (.block 0 (.loop 1 (some [0,1]) (some [0,1])))
 (.seq (.reg (some [0]) [Mv 11 0,As 4 11])
 .ret)),
 [.tmp 4],
 [(1,⟨some [0,1],some [0,1],.seq (.seq (.reg (some [0,1]) [Mv 5 1,Bc 6 .neq 70 5 .u64 0])
 (.cond (.tmp 6) .skip
 (.exit 0 (some [0]))))
 (.block 1 (.draw (some [0,1]) 6 [Dr (Mv 7 1) 0 [4,5],Dr (Mv 8 0) 1 [3,4,5],Dr (Mv 9 1) 2 [3,5],Dr (Bt 10 .rem 70 8 9) 3 [5],Dr (As 0 7) 4 [5],Dr (As 1 10) 5 []]))⟩)],
 []⟩
theorem r45_ok : resFun (progU ()) hint live 45 Try.f45 = some r45:=by kernel_rfl
def r46 : RFun :=
⟨.seq (.reg (some [0]) [Ol 2 (.assign (.const (.int .u64 0)))])
 (.seq (.seq (.reg (some [0]) [Mv 3 0,Bc 4 .geq 2 3 .i64 0])
 (.cond (.tmp 4) (.seq (.reg (some [0]) [Mv 5 0,Ro 6 (.convI .u64 (.tmp 5)),As 2 6])
 .ret)
 .skip))
 (.seq (.reg (some [0]) [Mv 7 0,Bc 8 .add 2 7 .i64 1,Ol 9 (.unOp .neg 2 (.tmp 8)),Ro 10 (.convI .u64 (.tmp 9)),Bc 11 .add 70 10 .u64 1,As 2 11])
 .ret)),
 [.tmp 2],
 [],
 []⟩
theorem r46_ok : resFun (progU ()) hint live 46 Try.f46 = some r46:=by kernel_rfl
def r47 : RFun :=
⟨.seq (.reg (some [0,1]) [⟨some 4,none,.op true (.new 2 [.int .i64 0,.int .i64 0])⟩,Ac 5 0])
 (.seq (.seq (.reg (some [0,1,4]) [Mv 7 1,Bc 8 .eql 2 7 .i64 0])
 (.cond (.tmp 8) (.seq (.reg (some [4]) [Ro 9 (.build [.int .i64 0,.int .i64 0] []),⟨none,none,.op false (.store 2 (.tmp 4) (.tmp 9))⟩,Ac 5 18])
 .ret)
 .skip))
 (.seq (.reg (some [0,1,4]) [Mv 10 0,Ca 11 46 [.tmp 10] (some (.val (.one (.int .u64)))),Mv 12 1,Ca 13 46 [.tmp 12] (some (.val (.one (.int .u64)))),Ca 14 45 [.tmp 11,.tmp 13] (some (.val (.one (.int .u64)))),As 6 14])
 (.seq (.reg (some [0,1,4,6]) [Mv 15 0,Bc 16 .lss 2 15 .i64 0,Mv 17 1,Bc 18 .lss 2 17 .i64 0,Bt 19 .neq 4 16 18,Mv 20 0,Ca 21 46 [.tmp 20] (some (.val (.one (.int .u64)))),Mv 22 6,Bt 23 .quo 70 21 22,Ca 24 58 [.tmp 23] (some (.val (.agg [.int .u64,.int .u64,.int .u64,.int .u64]))),Mv 25 1,Ca 26 46 [.tmp 25] (some (.val (.one (.int .u64)))),Mv 27 6,Bt 28 .quo 70 26 27,Ca 29 58 [.tmp 28] (some (.val (.agg [.int .u64,.int .u64,.int .u64,.int .u64]))),Ca 30 57 [.tmp 19,.tmp 24,.tmp 29] (some (.tup [.agg [.int .i64,.int .i64],.one (.int .i64)])),Ex 31 30 0,Ex 32 30 1,⟨none,none,.op false (.store 2 (.tmp 4) (.tmp 31))⟩,As 5 32])
 .ret))),
 [.agg 4 2 [.int .i64,.int .i64],.tmp 5],
 [],
 []⟩
theorem r47_ok : resFun (progU ()) hint live 47 Try.f47 = some r47:=by kernel_rfl
def r48 : RFun :=
⟨.seq (.reg (some [0,1]) [Ac 4 0])
 (.seq (.reg (some [0,1]) [Ac 5 0])
 (.seq (.seq (.reg (some [0,1,5]) [Ac 6 0])
 (.block 0 (.loop 3 none (some [0,1,5,6]))))
 (.seq (.reg (some [5]) [Mv 22 5,As 4 22])
 .ret))),
 [.tmp 4],
 [(3,⟨none,some [0,1,5,6],.seq (.seq (.reg (some [0,1,5,6]) [Mv 7 6,Mv 8 0,Ro 9 (.lenS (.tmp 8)),Bt 10 .lss 3 7 9])
 (.cond (.tmp 10) .skip
 (.exit 0 (some [5]))))
 (.seq (.block 1 (.seq (.reg (some [0,1,5,6]) [Mv 13 0,Mv 14 6,Ix 15 1 13 14,L1 16 15,Ca 17 44 [.tmp 16] (some (.val (.one (.int .i64)))),Mv 18 1,Bt 19 .lss 3 17 18])
 (.cond (.tmp 19) (.reg (some [0,1,5,6]) [Mv 20 5,Bc 21 .add 3 20 .i64 1,As 5 21])
 .skip)))
 (.reg (some [0,1,5,6]) [Mv 11 6,Bc 12 .add 3 11 .i64 1,As 6 12]))⟩)],
 []⟩
theorem r48_ok : resFun (progU ()) hint live 48 Try.f48 = some r48:=by kernel_rfl
def r49 : RFun :=
⟨.seq (.reg (some [0,1]) [⟨some 2,none,.op true (.box 2 (.tmp 0))⟩,⟨some 3,none,.op true (.box 2 (.tmp 1))⟩,Ac 4 0,Ac 5 0])
 (.seq (.seq (.reg (some [2,3]) [Ld 6 2,Ld 7 3,Ca 8 59 [.tmp 6,.tmp 7] (some (.val (.one (.int .i64)))),Bc 9 .neq 3 8 .i64 0])
 (.cond (.tmp 9) (.seq (.reg (some [2,3]) [Ld 10 2,Ld 11 3,Ca 12 59 [.tmp 10,.tmp 11] (some (.val (.one (.int .i64)))),Ac 4 0,As 5 12])
 .ret)
 .skip))
 (.seq (.seq (.reg (some [2,3]) [Ld 13 2,Ld 14 3,Bt 15 .eql 51 13 14])
 (.cond (.tmp 15) (.seq (.reg (some []) [Ac 4 0,Ac 5 0])
 .ret)
 .skip))
 (.seq (.seq (.reg (some [2,3]) [Ld 16 2,Ld 17 3,Ca 18 60 [.tmp 16,.tmp 17] (some (.val (.one .bool)))])
 (.cond (.tmp 18) (.seq (.reg (some []) [Ol 4 (.assign (.const (.int .i64 (-1)))),Ac 5 0])
 .ret)
 .skip))
 (.seq (.reg (some []) [Ac 4 1,Ac 5 0])
 .ret)))),
 [.tmp 4,.tmp 5],
 [],
 []⟩
theorem r49_ok : resFun (progU ()) hint live 49 Try.f49 = some r49:=by kernel_rfl
def r50 : RFun :=
⟨.seq (.reg (some [0,1]) [Ol 4 (.assign (.const (.int .u64 0)))])
 (.seq (.block 0 (.loop 1 (some [0,1]) (some [0,1])))
 (.seq (.reg (some [0]) [Mv 11 0,As 4 11])
 .ret)),
 [.tmp 4],
 [(1,⟨some [0,1],some [0,1],.seq (.seq (.reg (some [0,1]) [Mv 5 1,Bc 6 .neq 70 5 .u64 0])
 (.cond (.tmp 6) .skip
 (.exit 0 (some [0]))))
 (.block 1 (.draw (some [0,1]) 6 [Dr (Mv 7 1) 0 [4,5],Dr (Mv 8 0) 1 [3,4,5],Dr (Mv 9 1) 2 [3,5],Dr (Bt 10 .rem 70 8 9) 3 [5],Dr (As 0 7) 4 [5],Dr (As 1 10) 5 []]))⟩)],
 []⟩
theorem r50_ok : resFun (progU ()) hint live 50 Try.f50 = some r50:=by kernel_rfl
def r51 : RFun :=
⟨.seq (.reg (some [0]) [Ol 2 (.assign (.const (.int .u64 0)))])
 (.seq (.seq (.reg (some [0]) [Mv 3 0,Bc 4 .lss 2 3 .i64 0])
 (.cond (.tmp 4) (.seq (.reg (some [0]) [Mv 5 0,Ro 6 (.convI .u64 (.tmp 5)),Ol 7 (.unOp .neg 70 (.tmp 6)),As 2 7])
 .ret)
 .skip))
 (.seq (.reg (some [0]) [Mv 8 0,Ro 9 (.convI .u64 (.tmp 8)),As 2 9])
 .ret)),
 [.tmp 2],
 [],
 []⟩
theorem r51_ok : resFun (progU ()) hint live 51 Try.f51 = some r51:=by kernel_rfl
def r52 : RFun :=
⟨.seq (.reg (some [0,1,2,3]) [Ol 8 (.assign (.const (.bool true)))])
 (.seq (.reg (some [0,1,2,3,8]) [Ol 9 (.assign (.const (.bool true)))])
 (.block 0 (.loop 2 (some [0,1,2,3,8,9]) (some [0,1,2,3,8,9])))),
 [],
 [(2,⟨some [0,1,2,3,8,9],some [0,1,2,3,8,9],.block 1 (.seq (.reg (some [0,1,2,3,8,9]) [Mv 19 2,Mv 20 1,Bt 21 .sub 3 19 20,As 10 21])
 (.seq (.seq (.reg (some [0,1,2,3,8,9,10]) [Mv 22 10,Bc 23 .leq 3 22 .i64 12])
 (.cond (.tmp 23) (.seq (.reg (some [0,1,2]) [Mv 24 0,Mv 25 1,Mv 26 2,Ca 27 61 [.tmp 24,.tmp 25,.tmp 26] (some (.tup []))])
 .ret)
 .skip))
 (.seq (.seq (.reg (some [0,1,2,3,8,9,10]) [Mv 28 3,Bc 29 .eql 3 28 .i64 0])
 (.cond (.tmp 29) (.seq (.reg (some [0,1,2]) [Mv 30 0,Mv 31 1,Mv 32 2,Ca 33 62 [.tmp 30,.tmp 31,.tmp 32] (some (.tup []))])
 .ret)
 .skip))
 (.seq (.seq (.reg (some [0,1,2,3,8,9,10]) [Mv 34 8,Ol 35 (.unOp .not 4 (.tmp 34))])
 (.cond (.tmp 35) (.seq (.reg (some [0,1,2,3,8,9,10]) [Mv 36 0,Mv 37 1,Mv 38 2,Ca 39 63 [.tmp 36,.tmp 37,.tmp 38] (some (.tup []))])
 (.reg (some [0,1,2,3,8,9,10]) [Mv 40 3,Bc 41 .sub 3 40 .i64 1,As 3 41]))
 .skip))
 (.seq (.reg (some [0,1,2,3,8,9,10]) [Mv 43 0,Mv 44 1,Mv 45 2,Ca 46 64 [.tmp 43,.tmp 44,.tmp 45] (some (.tup [.one (.int .i64),.one (.int .i64)])),Mv 42 46,Ex 47 42 0,Ex 48 42 1,As 11 47,As 12 48])
 (.seq (.seq (.reg (some [0,1,2,3,8,9,10,11,12]) [Mv 49 12,Bc 50 .eql 89 49 .i64 2])
 (.cond (.tmp 50) (.seq (.reg (some [0,1,2,3,8,9,10,11]) [Mv 51 0,Mv 52 1,Mv 53 2,Ca 54 65 [.tmp 51,.tmp 52,.tmp 53] (some (.tup []))])
 (.seq (.reg (some [0,1,2,3,8,9,10,11]) [Mv 55 2,Bc 56 .sub 3 55 .i64 1,Mv 57 11,Mv 58 1,Bt 59 .sub 3 57 58,Bt 60 .sub 3 56 59,As 11 60])
 (.reg (some [0,1,2,3,8,9,10,11]) [Ac 12 1])))
 .skip))
 (.seq (.seq (.reg (some [0,1,2,3,8,9,10,11,12]) [Mv 61 8,Mv 62 61,⟨some 63,some (62,true),.op false (.old (.move (.tmp 9)))⟩,Ol 64 (.pick (.tmp 62) (.tmp 63) (.const (.bool false))),Mv 65 64,⟨some 66,some (65,true),.op false (.old (.move (.tmp 12)))⟩,⟨some 67,some (65,true),.op false (.old (.binOp .eql 89 (.tmp 66) (.const (.int .i64 1)) 89))⟩,Ol 68 (.pick (.tmp 65) (.tmp 67) (.const (.bool false)))])
 (.cond (.tmp 68) (.seq (.reg (some [0,1,2,3,8,9,10,11]) [Mv 69 0,Mv 70 1,Mv 71 2,Ca 72 66 [.tmp 69,.tmp 70,.tmp 71] (some (.val (.one .bool)))])
 (.cond (.tmp 72) .ret
 .skip))
 .skip))
 (.seq (.seq (.draw (some [0,1,2,3,8,9,10,11]) 15 [Dr (Mv 73 1) 0 [1,2,3,4,5,6,7,8,9,10,11,12,13,14],Dr (Bc 74 .gtr 3 73 .i64 0) 1 [2,3,4,5,6,7,8,9,10,11,12,13,14],Dr (Mv 75 74) 2 [3,4,5,6,7,8,9,10,11,12,13,14],⟨⟨some 76,some (75,true),.op false (.old (.move (.tmp 0)))⟩,3,.none,[6,7,12,13,14],false,true⟩,⟨⟨some 77,some (75,true),.op false (.old (.move (.tmp 1)))⟩,4,.none,[5,6,7,12,13,14],false,true⟩,⟨⟨some 78,some (75,true),.op false (.old (.binOp .sub 3 (.tmp 77) (.const (.int .i64 1)) 3))⟩,5,.none,[6,7,12,13,14],false,true⟩,⟨⟨some 79,some (75,true),.op false (.ixS 1 (.tmp 76) (.tmp 78))⟩,6,.none,[7,12,13,14],false,true⟩,⟨⟨some 80,some (75,true),.op false (.load1 (.int .i64) (.tmp 79))⟩,7,.blk (.tmp 79),[12,13,14],false,true⟩,⟨⟨some 81,some (75,true),.op false (.old (.move (.tmp 0)))⟩,8,.none,[10,11,12,13,14],false,true⟩,⟨⟨some 82,some (75,true),.op false (.old (.move (.tmp 11)))⟩,9,.none,[10,11,12,13,14],false,true⟩,⟨⟨some 83,some (75,true),.op false (.ixS 1 (.tmp 81) (.tmp 82))⟩,10,.none,[11,12,13,14],false,true⟩,⟨⟨some 84,some (75,true),.op false (.load1 (.int .i64) (.tmp 83))⟩,11,.blk (.tmp 83),[12,13,14],false,true⟩,⟨⟨some 85,some (75,true),.call (.func 67) [.tmp 80,.tmp 84] (some (.val (.one .bool)))⟩,12,.all,[13,14],false,false⟩,⟨⟨some 86,some (75,true),.op false (.old (.unOp .not 4 (.tmp 85)))⟩,13,.none,[14],false,true⟩,Dr (Ol 87 (.pick (.tmp 75) (.tmp 86) (.const (.bool false)))) 14 []])
 (.cond (.tmp 87) (.seq (.reg (some [0,1,2,3,8,9,11]) [Mv 88 0,Mv 89 1,Mv 90 2,Mv 91 11,Ca 92 68 [.tmp 88,.tmp 89,.tmp 90,.tmp 91] (some (.val (.one (.int .i64)))),As 13 92])
 (.seq (.reg (some [0,2,3,8,9,13]) [Mv 93 13,As 1 93])
 (.exit 1 (some [0,1,2,3,8,9]))))
 .skip))
 (.seq (.reg (some [0,1,2,3,10,11]) [Mv 95 0,Mv 96 1,Mv 97 2,Mv 98 11,Ca 99 69 [.tmp 95,.tmp 96,.tmp 97,.tmp 98] (some (.tup [.one (.int .i64),.one .bool])),Mv 94 99,Ex 100 94 0,Ex 101 94 1,As 14 100,As 15 101])
 (.seq (.reg (some [0,1,2,3,10,14,15]) [Mv 102 15,As 9 102])
 (.seq (.reg (some [0,1,2,3,9,10,14]) [Mv 103 14,Mv 104 1,Bt 105 .sub 3 103 104,Mv 106 2,Mv 107 14,Bt 108 .sub 3 106 107,As 16 105,As 17 108])
 (.seq (.reg (some [0,1,2,3,9,10,14,16,17]) [Mv 109 10,Bc 110 .quo 3 109 .i64 8,As 18 110])
 (.seq (.reg (some [0,1,2,3,9,14,16,17,18]) [Mv 111 16,Mv 112 17,Bt 113 .lss 3 111 112])
 (.cond (.tmp 113) (.seq (.reg (some [0,1,2,3,9,14,16,18]) [Mv 114 16,Mv 115 18,Bt 116 .geq 3 114 115,As 8 116])
 (.seq (.reg (some [0,1,2,3,8,9,14]) [Mv 117 0,Mv 118 1,Mv 119 14,Mv 120 3,Ca 121 52 [.tmp 117,.tmp 118,.tmp 119,.tmp 120] (some (.tup []))])
 (.reg (some [0,2,3,8,9,14]) [Mv 122 14,Bc 123 .add 3 122 .i64 1,As 1 123])))
 (.seq (.reg (some [0,1,2,3,9,14,17,18]) [Mv 124 17,Mv 125 18,Bt 126 .geq 3 124 125,As 8 126])
 (.seq (.reg (some [0,1,2,3,8,9,14]) [Mv 127 0,Mv 128 14,Bc 129 .add 3 128 .i64 1,Mv 130 2,Mv 131 3,Ca 132 52 [.tmp 127,.tmp 129,.tmp 130,.tmp 131] (some (.tup []))])
 (.reg (some [0,1,3,8,9,14]) [Mv 133 14,As 2 133])))))))))))))))))⟩)],
 []⟩
theorem r52_ok : resFun (progU ()) hint live 52 Try.f52 = some r52:=by kernel_rfl
def r53 : RFun :=
⟨.seq (.reg (some [0]) [Ac 2 0])
 (.seq (.cond (.const (.bool false)) (.seq (.reg (some [0]) [Mv 3 0,Ro 4 (.convI .u32 (.tmp 3)),Ca 5 70 [.tmp 4] (some (.val (.one (.int .i64)))),As 2 5])
 .ret)
 .skip)
 (.seq (.reg (some [0]) [Mv 6 0,Ca 7 71 [.tmp 6] (some (.val (.one (.int .i64)))),As 2 7])
 .ret)),
 [.tmp 2],
 [],
 []⟩
theorem r53_ok : resFun (progU ()) hint live 53 Try.f53 = some r53:=by kernel_rfl
def r54 : RFun :=
⟨.seq (.reg (some [0,1,2]) [⟨some 6,none,.op true (.new 2 [.int .i64 0,.int .i64 0])⟩,Ac 7 0])
 (.seq (.seq (.reg (some [0,1,2,6]) [Mv 9 1,Bc 10 .gtr 70 9 .u64 1000000000000000000,Mv 11 10,⟨some 12,some (11,false),.op false (.old (.move (.tmp 2)))⟩,⟨some 13,some (11,false),.op false (.old (.binOp .gtr 70 (.tmp 12) (.const (.int .u64 1000000000000000000)) 70))⟩,Ol 14 (.pick (.tmp 11) (.const (.bool true)) (.tmp 13))])
 (.cond (.tmp 14) (.seq (.reg (some [6]) [Ro 15 (.build [.int .i64 0,.int .i64 0] []),⟨none,none,.op false (.store 2 (.tmp 6) (.tmp 15))⟩,Ac 7 16])
 .ret)
 .skip))
 (.seq (.reg (some [0,1,2,6]) [Mv 16 1,Ro 17 (.convI .i64 (.tmp 16)),Mv 18 2,Ro 19 (.convI .i64 (.tmp 18)),Ro 20 (.build [.int .i64 0,.int .i64 0] [(0,1,(.tmp 17)),(1,1,(.tmp 19))]),⟨some 8,none,.op true (.new 2 [.int .i64 0,.int .i64 0])⟩,⟨none,none,.op false (.store 2 (.tmp 8) (.tmp 20))⟩])
 (.seq (.seq (.reg (some [0,6,8]) [Mv 21 0])
 (.cond (.tmp 21) (.reg (some [6,8]) [Fa 22 0 8,L1 23 22,Ol 24 (.unOp .neg 2 (.tmp 23)),Fa 25 0 8,⟨none,none,.op false (.store 1 (.tmp 25) (.tmp 24))⟩])
 .skip))
 (.seq (.reg (some [6,8]) [Ld 26 8,⟨none,none,.op false (.store 2 (.tmp 6) (.tmp 26))⟩,Ac 7 0])
 .ret)))),
 [.agg 6 2 [.int .i64,.int .i64],.tmp 7],
 [],
 []⟩
theorem r54_ok : resFun (progU ()) hint live 54 Try.f54 = some r54:=by kernel_rfl
def r55 : RFun :=
⟨.seq (.reg (some [0,1]) [⟨some 2,none,.op true (.box 2 (.tmp 0))⟩,⟨some 3,none,.op true (.box 2 (.tmp 1))⟩,Ac 4 0])
 (.seq (.seq (.reg (some [2,3]) [Ld 6 2,Ca 7 40 [.tmp 6] (some (.val (.one (.int .i64)))),As 5 7])
 (.seq (.reg (some [3,5]) [Mv 8 5,Bc 9 .neq 25 8 .i64 0])
 (.cond (.tmp 9) (.seq (.reg (some [5]) [Mv 10 5,As 4 10])
 .ret)
 .skip)))
 (.seq (.reg (some [3]) [Ld 11 3,Ca 12 40 [.tmp 11] (some (.val (.one (.int .i64)))),As 4 12])
 .ret)),
 [.tmp 4],
 [],
 []⟩
theorem r55_ok : resFun (progU ()) hint live 55 Try.f55 = some r55:=by kernel_rfl
end Go.Proofs.Ytcdoknkgbnaefaa
