import Derived.Test.YtnokkniofajnhaaSeat0
import Derived.Test.YtnokkniofajnhaaSymS
set_option linter.unusedSimpArgs false
set_option linter.unusedVariables false
namespace Go.Proofs.Ytnokkniofajnhaa
open Go.Sim
set_option maxRecDepth 100000
def r29 : RFun :=
⟨.seq (.reg (some [0,1]) [⟨some 2,none,.op true (.box 2 (.tmp 0))⟩,Ol 4 (.assign (.const (.bool false)))])
 (.seq (.reg (some [1,2]) [Ld 5 2,Ca 6 28 [.tmp 5] (some (.val (.one (.int .i64)))),Bc 7 .eql 3 6 .i64 0,Mv 8 7,⟨some 9,some (8,true),.op false (.old (.move (.tmp 1)))⟩,⟨some 10,some (8,true),.op false (.old (.unOp .neg 2 (.tmp 9)))⟩,⟨some 11,some (8,true),.op false (.fieldAddr 0 (.tmp 2))⟩,⟨some 12,some (8,true),.op false (.load1 (.int .i64) (.tmp 11))⟩,⟨some 13,some (8,true),.op false (.old (.binOp .leq 2 (.tmp 10) (.tmp 12) 2))⟩,Ol 14 (.pick (.tmp 8) (.tmp 13) (.const (.bool false))),Mv 15 14,⟨some 16,some (15,true),.op false (.fieldAddr 0 (.tmp 2))⟩,⟨some 17,some (15,true),.op false (.load1 (.int .i64) (.tmp 16))⟩,⟨some 18,some (15,true),.op false (.old (.move (.tmp 1)))⟩,⟨some 19,some (15,true),.op false (.old (.binOp .leq 2 (.tmp 17) (.tmp 18) 2))⟩,Ol 20 (.pick (.tmp 15) (.tmp 19) (.const (.bool false))),Mv 21 20,⟨some 22,some (21,true),.op false (.fieldAddr 1 (.tmp 2))⟩,⟨some 23,some (21,true),.op false (.load1 (.int .i64) (.tmp 22))⟩,⟨some 24,some (21,true),.op false (.old (.move (.tmp 1)))⟩,⟨some 25,some (21,true),.op false (.old (.binOp .leq 2 (.tmp 23) (.tmp 24) 2))⟩,Ol 26 (.pick (.tmp 21) (.tmp 25) (.const (.bool false))),As 4 26])
 .ret),
 [.tmp 4],
 [],
 []⟩
theorem r29_ok : resFun (progU ()) hint live 29 Try.f29 = some r29:=by kernel_rfl
def r31 : RFun :=
⟨.seq (.reg (some [0,1]) [⟨some 4,none,.op true (.new 2 [.int .i64 0,.int .i64 0])⟩,Ac 5 0])
 (.seq (.seq (.reg (some [0,1,4]) [Mv 7 1,Bc 8 .eql 2 7 .i64 0])
 (.cond (.tmp 8) (.seq (.reg (some [4]) [Ro 9 (.build [.int .i64 0,.int .i64 0] []),⟨none,none,.op false (.store 2 (.tmp 4) (.tmp 9))⟩,Ac 5 18])
 .ret)
 .skip))
 (.seq (.reg (some [0,1,4]) [Mv 10 0,Ca 11 48 [.tmp 10] (some (.val (.one (.int .u64)))),Mv 12 1,Ca 13 48 [.tmp 12] (some (.val (.one (.int .u64)))),Ca 14 47 [.tmp 11,.tmp 13] (some (.val (.one (.int .u64)))),As 6 14])
 (.seq (.reg (some [0,1,4,6]) [Mv 15 0,Bc 16 .lss 2 15 .i64 0,Mv 17 1,Bc 18 .lss 2 17 .i64 0,Bt 19 .neq 4 16 18,Mv 20 0,Ca 21 48 [.tmp 20] (some (.val (.one (.int .u64)))),Mv 22 6,Bt 23 .quo 80 21 22,Ca 24 52 [.tmp 23] (some (.val (.agg [.int .u64,.int .u64,.int .u64,.int .u64]))),Mv 25 1,Ca 26 48 [.tmp 25] (some (.val (.one (.int .u64)))),Mv 27 6,Bt 28 .quo 80 26 27,Ca 29 52 [.tmp 28] (some (.val (.agg [.int .u64,.int .u64,.int .u64,.int .u64]))),Ca 30 51 [.tmp 19,.tmp 24,.tmp 29] (some (.tup [.agg [.int .i64,.int .i64],.one (.int .i64)])),Ex 31 30 0,Ex 32 30 1,⟨none,none,.op false (.store 2 (.tmp 4) (.tmp 31))⟩,As 5 32])
 .ret))),
 [.agg 4 2 [.int .i64,.int .i64],.tmp 5],
 [],
 []⟩
theorem r31_ok : resFun (progU ()) hint live 31 Try.f31 = some r31:=by kernel_rfl
def r32 : RFun :=
⟨.seq (.reg (some [0]) [⟨some 1,none,.op true (.box 2 (.tmp 0))⟩,Ac 2 0])
 (.seq (.seq (.reg (some [1]) [Fa 3 1 1,L1 4 3,Bc 5 .lss 2 4 .i64 1,Mv 6 5,⟨some 7,some (6,false),.op false (.fieldAddr 1 (.tmp 1))⟩,⟨some 8,some (6,false),.op false (.load1 (.int .i64) (.tmp 7))⟩,⟨some 9,some (6,false),.op false (.old (.binOp .gtr 2 (.tmp 8) (.const (.int .i64 1000000000000000000)) 2))⟩,Ol 10 (.pick (.tmp 6) (.const (.bool true)) (.tmp 9)),Mv 11 10,⟨some 12,some (11,false),.op false (.fieldAddr 0 (.tmp 1))⟩,⟨some 13,some (11,false),.op false (.load1 (.int .i64) (.tmp 12))⟩,⟨some 14,some (11,false),.op false (.old (.binOp .lss 2 (.tmp 13) (.const (.int .i64 (-1000000000000000000))) 2))⟩,Ol 15 (.pick (.tmp 11) (.const (.bool true)) (.tmp 14)),Mv 16 15,⟨some 17,some (16,false),.op false (.fieldAddr 0 (.tmp 1))⟩,⟨some 18,some (16,false),.op false (.load1 (.int .i64) (.tmp 17))⟩,⟨some 19,some (16,false),.op false (.old (.binOp .gtr 2 (.tmp 18) (.const (.int .i64 1000000000000000000)) 2))⟩,Ol 20 (.pick (.tmp 16) (.const (.bool true)) (.tmp 19))])
 (.cond (.tmp 20) (.seq (.reg (some []) [Ac 2 8])
 .ret)
 .skip))
 (.seq (.seq (.draw (some [1]) 8 [Dr (Fa 21 0 1) 0 [1,2,5,6,7],Db (L1 22 21) 1 21 [2,5,6,7],Dr (Fa 24 1 1) 3 [4,5,6,7],Db (L1 25 24) 4 24 [5,6,7],⟨Ca 23 54 [.tmp 22] (some (.val (.one (.int .u64)))),2,.all,[5,6,7],false,false⟩,⟨Ca 26 54 [.tmp 25] (some (.val (.one (.int .u64)))),5,.all,[6,7],false,false⟩,⟨Ca 27 53 [.tmp 23,.tmp 26] (some (.val (.one (.int .u64)))),6,.all,[7],false,false⟩,Dr (Bc 28 .neq 80 27 .u64 1) 7 []])
 (.cond (.tmp 28) (.seq (.reg (some []) [Ac 2 8])
 .ret)
 .skip))
 (.seq (.reg (some []) [Ac 2 0])
 .ret))),
 [.tmp 2],
 [],
 []⟩
theorem r32_ok : resFun (progU ()) hint live 32 Try.f32 = some r32:=by kernel_rfl
def r33 : RFun :=
⟨.seq (.reg (some [0,1]) [⟨some 2,none,.op true (.box 2 (.tmp 0))⟩,Ol 4 (.assign (.const (.bool false)))])
 (.seq (.reg (some [1,2]) [Ld 5 2,Ca 6 32 [.tmp 5] (some (.val (.one (.int .i64)))),Bc 7 .eql 26 6 .i64 0,Mv 8 7,⟨some 9,some (8,true),.op false (.fieldAddr 0 (.tmp 2))⟩,⟨some 10,some (8,true),.op false (.load1 (.int .i64) (.tmp 9))⟩,⟨some 11,some (8,true),.op false (.old (.move (.tmp 1)))⟩,⟨some 12,some (8,true),.op false (.old (.unOp .neg 2 (.tmp 11)))⟩,⟨some 13,some (8,true),.op false (.old (.binOp .geq 2 (.tmp 10) (.tmp 12) 2))⟩,Ol 14 (.pick (.tmp 8) (.tmp 13) (.const (.bool false))),Mv 15 14,⟨some 16,some (15,true),.op false (.fieldAddr 0 (.tmp 2))⟩,⟨some 17,some (15,true),.op false (.load1 (.int .i64) (.tmp 16))⟩,⟨some 18,some (15,true),.op false (.old (.move (.tmp 1)))⟩,⟨some 19,some (15,true),.op false (.old (.binOp .leq 2 (.tmp 17) (.tmp 18) 2))⟩,Ol 20 (.pick (.tmp 15) (.tmp 19) (.const (.bool false))),Mv 21 20,⟨some 22,some (21,true),.op false (.fieldAddr 1 (.tmp 2))⟩,⟨some 23,some (21,true),.op false (.load1 (.int .i64) (.tmp 22))⟩,⟨some 24,some (21,true),.op false (.old (.move (.tmp 1)))⟩,⟨some 25,some (21,true),.op false (.old (.binOp .leq 2 (.tmp 23) (.tmp 24) 2))⟩,Ol 26 (.pick (.tmp 21) (.tmp 25) (.const (.bool false))),As 4 26])
 .ret),
 [.tmp 4],
 [],
 []⟩
theorem r33_ok : resFun (progU ()) hint live 33 Try.f33 = some r33:=by kernel_rfl
def r34 : RFun :=
⟨.seq (.reg (some [0,1]) [⟨some 2,none,.op true (.box 2 (.tmp 0))⟩,⟨some 3,none,.op true (.box 2 (.tmp 1))⟩,Ac 4 0])
 (.seq (.reg (some [2,3]) [Ld 8 2,Ld 9 3,Ca 10 55 [.tmp 8,.tmp 9] (some (.tup [.one (.int .i64),.one (.int .i64)])),Mv 7 10,Ex 11 7 0,Ex 12 7 1,As 5 11,As 6 12])
 (.seq (.reg (some [5]) [Mv 13 5,As 4 13])
 .ret)),
 [.tmp 4],
 [],
 []⟩
theorem r34_ok : resFun (progU ()) hint live 34 Try.f34 = some r34:=by kernel_rfl
def r35 : RFun :=
⟨.seq (.reg (some [0,1]) [⟨some 3,none,.op true (.box 2 (.tmp 1))⟩,⟨some 4,none,.op true (.new 2 [.int .i64 0,.int .i64 0])⟩,Ac 5 0])
 (.seq (.reg (some [0,3,4]) [Ac 6 1])
 (.seq (.block 0 (.loop 2 (some [0,3,4,6]) (some [0,3,4,6])))
 (.seq (.draw (some [0,3,4,6]) 13 [Dr (Mv 32 0) 0 [3,4,11,12],Dr (Mv 33 6) 1 [2,3,4,11,12],Dr (Bc 34 .sub 3 33 .i64 1) 2 [3,4,11,12],Dr (Ix 35 4 32 34) 3 [4,11,12],Db (Ro 36 (.load 4 [.int .i64,.int .i64,.int .i64,.int .i64] (.tmp 35))) 4 35 [11,12],Dr (Mv 37 0) 5 [7,8,12],Dr (Mv 38 6) 6 [7,8,12],Dr (Ix 39 4 37 38) 7 [8,12],Db (Ro 40 (.load 4 [.int .i64,.int .i64,.int .i64,.int .i64] (.tmp 39))) 8 39 [12],⟨⟨some 7,none,.op true (.new 4 [.int .i64 0,.int .i64 0,.int .i64 0,.int .i64 0])⟩,9,.new true,[11,12],false,true⟩,⟨⟨some 8,none,.op true (.new 4 [.int .i64 0,.int .i64 0,.int .i64 0,.int .i64 0])⟩,10,.new true,[11,12],false,true⟩,⟨⟨none,none,.op false (.store 4 (.tmp 7) (.tmp 36))⟩,11,.blk (.tmp 7),[12],true,true⟩,⟨⟨none,none,.op false (.store 4 (.tmp 8) (.tmp 40))⟩,12,.blk (.tmp 8),[],true,true⟩])
 (.seq (.reg (some [3,4,7,8]) [Fa 42 2 8,Ld 43 42,Fa 44 2 7,Ld 45 44,Ca 46 56 [.tmp 43,.tmp 45] (some (.tup [.agg [.int .i64,.int .i64],.one (.int .i64)])),Mv 41 46,Ex 47 41 0,Ex 48 41 1,⟨some 9,none,.op true (.new 2 [.int .i64 0,.int .i64 0])⟩,⟨none,none,.op false (.store 2 (.tmp 9) (.tmp 47))⟩,As 10 48])
 (.seq (.seq (.reg (some [3,4,7,8,9,10]) [Mv 49 10,Bc 50 .neq 26 49 .i64 0])
 (.cond (.tmp 50) (.seq (.reg (some [4,10]) [Ro 51 (.build [.int .i64 0,.int .i64 0] []),Mv 52 10,⟨none,none,.op false (.store 2 (.tmp 4) (.tmp 51))⟩,As 5 52])
 .ret)
 .skip))
 (.seq (.reg (some [3,4,7,8,9]) [Ld 54 3,Fa 55 0 7,Ld 56 55,Ca 57 56 [.tmp 54,.tmp 56] (some (.tup [.agg [.int .i64,.int .i64],.one (.int .i64)])),Mv 53 57,Ex 58 53 0,Ex 59 53 1,⟨some 11,none,.op true (.new 2 [.int .i64 0,.int .i64 0])⟩,⟨none,none,.op false (.store 2 (.tmp 11) (.tmp 58))⟩,As 10 59])
 (.seq (.seq (.reg (some [4,7,8,9,10,11]) [Mv 60 10,Bc 61 .neq 26 60 .i64 0])
 (.cond (.tmp 61) (.seq (.reg (some [4,10]) [Ro 62 (.build [.int .i64 0,.int .i64 0] []),Mv 63 10,⟨none,none,.op false (.store 2 (.tmp 4) (.tmp 62))⟩,As 5 63])
 .ret)
 .skip))
 (.seq (.reg (some [4,7,8,9,11]) [Fa 65 0 8,Ld 66 65,Fa 67 0 7,Ld 68 67,Ca 69 56 [.tmp 66,.tmp 68] (some (.tup [.agg [.int .i64,.int .i64],.one (.int .i64)])),Mv 64 69,Ex 70 64 0,Ex 71 64 1,⟨some 12,none,.op true (.new 2 [.int .i64 0,.int .i64 0])⟩,⟨none,none,.op false (.store 2 (.tmp 12) (.tmp 70))⟩,As 10 71])
 (.seq (.seq (.reg (some [4,7,9,10,11,12]) [Mv 72 10,Bc 73 .neq 26 72 .i64 0])
 (.cond (.tmp 73) (.seq (.reg (some [4,10]) [Ro 74 (.build [.int .i64 0,.int .i64 0] []),Mv 75 10,⟨none,none,.op false (.store 2 (.tmp 4) (.tmp 74))⟩,As 5 75])
 .ret)
 .skip))
 (.seq (.reg (some [4,7,9,11,12]) [Ld 77 9,Ld 78 11,Ca 79 57 [.tmp 77,.tmp 78] (some (.tup [.agg [.int .i64,.int .i64],.one (.int .i64)])),Mv 76 79,Ex 80 76 0,Ex 81 76 1,⟨some 13,none,.op true (.new 2 [.int .i64 0,.int .i64 0])⟩,⟨none,none,.op false (.store 2 (.tmp 13) (.tmp 80))⟩,As 10 81])
 (.seq (.seq (.reg (some [4,7,10,12,13]) [Mv 82 10,Bc 83 .neq 26 82 .i64 0])
 (.cond (.tmp 83) (.seq (.reg (some [4,10]) [Ro 84 (.build [.int .i64 0,.int .i64 0] []),Mv 85 10,⟨none,none,.op false (.store 2 (.tmp 4) (.tmp 84))⟩,As 5 85])
 .ret)
 .skip))
 (.seq (.reg (some [4,7,12,13]) [Ld 87 13,Ld 88 12,Ca 89 43 [.tmp 87,.tmp 88] (some (.tup [.agg [.int .i64,.int .i64],.one (.int .i64)])),Mv 86 89,Ex 90 86 0,Ex 91 86 1,⟨some 14,none,.op true (.new 2 [.int .i64 0,.int .i64 0])⟩,⟨none,none,.op false (.store 2 (.tmp 14) (.tmp 90))⟩,As 10 91])
 (.seq (.seq (.reg (some [4,7,10,14]) [Mv 92 10,Bc 93 .neq 26 92 .i64 0])
 (.cond (.tmp 93) (.seq (.reg (some [4,10]) [Ro 94 (.build [.int .i64 0,.int .i64 0] []),Mv 95 10,⟨none,none,.op false (.store 2 (.tmp 4) (.tmp 94))⟩,As 5 95])
 .ret)
 .skip))
 (.seq (.reg (some [4,7,14]) [Fa 96 2 7,Ld 97 96,Ld 98 14,Ca 99 58 [.tmp 97,.tmp 98] (some (.tup [.agg [.int .i64,.int .i64],.one (.int .i64)])),Ex 100 99 0,Ex 101 99 1,⟨none,none,.op false (.store 2 (.tmp 4) (.tmp 100))⟩,As 5 101])
 .ret)))))))))))))),
 [.agg 4 2 [.int .i64,.int .i64],.tmp 5],
 [(2,⟨some [0,3,4,6],some [0,3,4,6],.seq (.seq (.draw (some [0,3,4,6]) 15 [Dr (Mv 15 6) 0 [4,5,6,7,8,9,10,11,12,13,14],Dr (Mv 16 0) 1 [2,3,4,5,6,7,8,9,10,11,12,13,14],Dr (Ro 17 (.lenS (.tmp 16))) 2 [3,4,5,6,7,8,9,10,11,12,13,14],Dr (Bc 18 .sub 3 17 .i64 1) 3 [4,5,6,7,8,9,10,11,12,13,14],Dr (Bt 19 .lss 3 15 18) 4 [5,6,7,8,9,10,11,12,13,14],Dr (Mv 20 19) 5 [6,7,8,9,10,11,12,13,14],⟨⟨some 21,some (20,true),.op false (.load 2 [.int .i64,.int .i64] (.tmp 3))⟩,6,.blk (.tmp 3),[12,13,14],false,true⟩,⟨⟨some 22,some (20,true),.op false (.old (.move (.tmp 0)))⟩,7,.none,[9,10,11,12,13,14],false,true⟩,⟨⟨some 23,some (20,true),.op false (.old (.move (.tmp 6)))⟩,8,.none,[9,10,11,12,13,14],false,true⟩,⟨⟨some 24,some (20,true),.op false (.ixS 4 (.tmp 22) (.tmp 23))⟩,9,.none,[10,11,12,13,14],false,true⟩,⟨⟨some 25,some (20,true),.op false (.fieldAddr 0 (.tmp 24))⟩,10,.none,[11,12,13,14],false,true⟩,⟨⟨some 26,some (20,true),.op false (.load 2 [.int .i64,.int .i64] (.tmp 25))⟩,11,.blk (.tmp 25),[12,13,14],false,true⟩,⟨⟨some 27,some (20,true),.call (.func 34) [.tmp 21,.tmp 26] (some (.val (.one (.int .i64))))⟩,12,.all,[13,14],false,false⟩,⟨⟨some 28,some (20,true),.op false (.old (.binOp .gtr 3 (.tmp 27) (.const (.int .i64 0)) 3))⟩,13,.none,[14],false,true⟩,Dr (Ol 29 (.pick (.tmp 20) (.tmp 28) (.const (.bool false)))) 14 []])
 (.cond (.tmp 29) .skip
 (.exit 0 (some [0,3,4,6]))))
 (.block 1 (.reg (some [0,3,4,6]) [Mv 30 6,Bc 31 .add 3 30 .i64 1,As 6 31]))⟩)],
 []⟩
theorem r35_ok : resFun (progU ()) hint live 35 Try.f35 = some r35:=by kernel_rfl
def r36 : RFun :=
⟨.seq (.reg (some [0,1]) [⟨some 3,none,.op true (.box 2 (.tmp 1))⟩,⟨some 4,none,.op true (.new 2 [.int .i64 0,.int .i64 0])⟩])
 (.seq (.seq (.reg (some [0,3,4]) [Mv 6 0,Ro 7 (.lenS (.tmp 6)),Bc 8 .sub 3 7 .i64 1,As 5 8])
 (.block 0 (.loop 2 (some [0,3,4,5]) (some [0,3,4,5]))))
 (.seq (.reg (some [4]) [Ro 33 (.build [.int .i64 0,.int .i64 0] []),⟨none,none,.op false (.store 2 (.tmp 4) (.tmp 33))⟩])
 .ret)),
 [.agg 4 2 [.int .i64,.int .i64]],
 [(2,⟨some [0,3,4,5],some [0,3,4,5],.seq (.seq (.reg (some [0,3,4,5]) [Mv 9 5,Bc 10 .gtr 3 9 .i64 0])
 (.cond (.tmp 10) .skip
 (.exit 0 (some [4]))))
 (.seq (.block 1 (.seq (.draw (some [0,3,4,5]) 9 [Db (Ld 13 3) 0 3 [7,8],Dr (Mv 14 0) 1 [4,5,6,7,8],Dr (Mv 15 5) 2 [3,4,5,6,7,8],Dr (Bc 16 .sub 3 15 .i64 1) 3 [4,5,6,7,8],Dr (Ix 17 4 14 16) 4 [5,6,7,8],Dr (Fa 18 0 17) 5 [6,7,8],Db (Ld 19 18) 6 18 [7,8],⟨Ca 20 27 [.tmp 13,.tmp 19] (some (.val (.one .bool))),7,.all,[8],false,false⟩,Dr (Ol 21 (.unOp .not 4 (.tmp 20))) 8 []])
 (.cond (.tmp 21) (.seq (.draw (some [0,3,4,5]) 12 [Dr (Mv 22 0) 0 [3,4,10,11],Dr (Mv 23 5) 1 [2,3,4,10,11],Dr (Bc 24 .sub 3 23 .i64 1) 2 [3,4,10,11],Dr (Ix 25 4 22 24) 3 [4,10,11],Db (Ro 26 (.load 4 [.int .i64,.int .i64,.int .i64,.int .i64] (.tmp 25))) 4 25 [10,11],Dr (Mv 27 0) 5 [7,8,10,11],Dr (Mv 28 5) 6 [7,8,10,11],Dr (Ix 29 4 27 28) 7 [8,10,11],Db (Ro 30 (.load 4 [.int .i64,.int .i64,.int .i64,.int .i64] (.tmp 29))) 8 29 [10,11],Db (Ld 31 3) 9 3 [10,11],⟨Ca 32 59 [.tmp 26,.tmp 30,.tmp 31] (some (.val (.agg [.int .i64,.int .i64]))),10,.all,[11],false,false⟩,⟨⟨none,none,.op false (.store 2 (.tmp 4) (.tmp 32))⟩,11,.blk (.tmp 4),[],true,true⟩])
 .ret)
 .skip)))
 (.reg (some [0,3,4,5]) [Mv 11 5,Bc 12 .sub 3 11 .i64 1,As 5 12]))⟩)],
 []⟩
theorem r36_ok : resFun (progU ()) hint live 36 Try.f36 = some r36:=by kernel_rfl
def r37 : RFun :=
⟨.seq (.reg (some [0]) [Ol 2 (.assign (.const (.slice none 0 0)))])
 (.seq (.reg (some [0]) [Mv 6 0,Ro 7 (.lenS (.tmp 6)),Ro 8 (.mkSlice 4 [.int .i64 0,.int .i64 0,.int .i64 0,.int .i64 0] (.tmp 7) (.tmp 7)),As 3 8])
 (.seq (.seq (.reg (some [0,3]) [Mv 9 0,Ro 10 (.lenS (.tmp 9)),Ol 11 (.move (.const (.int .i64 0)))])
 (.block 0 (.loop 3 (some [3,9,10,11]) (some [3,9,10,11]))))
 (.seq (.reg (some [3]) [Mv 25 3,As 2 25])
 .ret))),
 [.tmp 2],
 [(3,⟨some [3,9,10,11],some [3,9,10,11],.seq (.reg (some [3,9,10,11]) [Bt 12 .lss 3 11 10])
 (.seq (.cond (.tmp 12) .skip
 (.exit 0 (some [3])))
 (.seq (.block 1 (.seq (.reg (some [3,9,10,11]) [Mv 13 11,Ix 14 4 9 11,Ro 15 (.load 4 [.int .i64,.int .i64,.int .i64,.int .i64] (.tmp 14)),⟨some 5,none,.op true (.new 4 [.int .i64 0,.int .i64 0,.int .i64 0,.int .i64 0])⟩,As 4 13,⟨none,none,.op false (.store 4 (.tmp 5) (.tmp 15))⟩])
 (.reg (some [3,4,5,9,10,11]) [Mv 16 3,Mv 17 4,Fa 18 2 5,Ld 19 18,Fa 20 0 5,Ld 21 20,Ro 22 (.build [.int .i64 0,.int .i64 0,.int .i64 0,.int .i64 0] [(0,2,(.tmp 19)),(2,2,(.tmp 21))]),Ix 23 4 16 17,⟨none,none,.op false (.store 4 (.tmp 23) (.tmp 22))⟩])))
 (.reg (some [3,9,10,11]) [Bc 24 .add 3 11 .i64 1,Mv 11 24])))⟩)],
 []⟩
theorem r37_ok : resFun (progU ()) hint live 37 Try.f37 = some r37:=by kernel_rfl
def r38 : RFun :=
⟨.seq (.reg (some [0]) [Ol 2 (.assign (.const (.slice none 0 0)))])
 (.seq (.reg (some [0]) [Ol 3 (.assign (.const (.slice none 0 0)))])
 (.seq (.seq (.reg (some [0,3]) [Ac 4 0])
 (.block 0 (.loop 3 (some [0,3,4]) (some [0,3,4]))))
 (.seq (.reg (some [3]) [Mv 25 3,As 2 25])
 .ret))),
 [.tmp 2],
 [(3,⟨some [0,3,4],some [0,3,4],.seq (.seq (.reg (some [0,3,4]) [Mv 5 4,Mv 6 0,Ro 7 (.lenS (.tmp 6)),Bt 8 .lss 3 5 7])
 (.cond (.tmp 8) .skip
 (.exit 0 (some [3]))))
 (.seq (.block 1 (.draw (some [0,3,4]) 15 [Dr (Mv 11 3) 0 [13,14],Dr (Mv 12 0) 1 [3,4,5,11,12,13,14],Dr (Mv 13 4) 2 [3,4,5,11,12,13,14],Dr (Ix 14 4 12 13) 3 [4,5,11,12,13,14],Dr (Fa 15 2 14) 4 [5,11,12,13,14],Db (Ld 16 15) 5 15 [11,12,13,14],Dr (Mv 17 0) 6 [8,9,10,11,12,13,14],Dr (Mv 18 4) 7 [8,9,10,11,12,13,14],Dr (Ix 19 4 17 18) 8 [9,10,11,12,13,14],Dr (Fa 20 0 19) 9 [10,11,12,13,14],Db (Ld 21 20) 10 20 [11,12,13,14],Dr (Ro 22 (.build [.int .i64 0,.int .i64 0,.int .i64 0,.int .i64 0] [(0,2,(.tmp 16)),(2,2,(.tmp 21))])) 11 [12,13,14],⟨Ro 23 (.buildSlice 4 1 [.int .i64 0,.int .i64 0,.int .i64 0,.int .i64 0] [(0,4,(.tmp 22))]),12,.new false,[13,14],false,true⟩,⟨⟨some 24,none,.op false (.old (.call ⟨.builtin .append,#[.tmp 11,.tmp 23],#[22,22]⟩))⟩,13,.app [.tmp 11,.tmp 23],[14],false,false⟩,Dr (As 3 24) 14 []]))
 (.reg (some [0,3,4]) [Mv 9 4,Bc 10 .add 3 9 .i64 1,As 4 10]))⟩)],
 []⟩
theorem r38_ok : resFun (progU ()) hint live 38 Try.f38 = some r38:=by kernel_rfl
def r39 : RFun :=
⟨.seq (.reg (some [0,1]) [Ol 4 (.assign (.const (.slice none 0 0)))])
 (.seq (.reg (some [0,1]) [Ol 5 (.assign (.const (.slice none 0 0)))])
 (.seq (.seq (.reg (some [0,1,5]) [Mv 10 0,Ro 11 (.lenS (.tmp 10)),Ol 12 (.move (.const (.int .i64 0)))])
 (.block 0 (.loop 3 (some [0,1,5,10,11,12]) (some [0,1,5,10,11,12]))))
 (.seq (.seq (.reg (some [0,1,5]) [Mv 22 1,Ro 23 (.lenS (.tmp 22)),Ol 24 (.move (.const (.int .i64 0)))])
 (.block 2 (.loop 8 (some [0,5,22,23,24]) (some [0,5,22,23,24]))))
 (.seq (.reg (some [5]) [Mv 55 5,Ca 56 60 [.tmp 55,.func 34] (some (.tup []))])
 (.seq (.reg (some [5]) [Mv 57 5,Ca 58 61 [.tmp 57] (some (.val (.one .slice))),As 4 58])
 .ret))))),
 [.tmp 4],
 [(3,⟨some [0,1,5,10,11,12],some [0,1,5,10,11,12],.seq (.reg (some [0,1,5,10,11,12]) [Bt 13 .lss 3 12 11])
 (.seq (.cond (.tmp 13) .skip
 (.exit 0 (some [0,1,5])))
 (.seq (.block 1 (.seq (.reg (some [0,1,5,10,11,12]) [Ix 14 4 10 12,Ro 15 (.load 4 [.int .i64,.int .i64,.int .i64,.int .i64] (.tmp 14)),⟨some 7,none,.op true (.new 4 [.int .i64 0,.int .i64 0,.int .i64 0,.int .i64 0])⟩,⟨none,none,.op false (.store 4 (.tmp 7) (.tmp 15))⟩])
 (.reg (some [0,1,5,7,10,11,12]) [Mv 16 5,Fa 17 2 7,Ld 18 17,Ro 19 (.buildSlice 2 1 [.int .i64 0,.int .i64 0] [(0,2,(.tmp 18))]),⟨some 20,none,.op false (.old (.call ⟨.builtin .append,#[.tmp 16,.tmp 19],#[69,69]⟩))⟩,As 5 20])))
 (.reg (some [0,1,5,10,11,12]) [Bc 21 .add 3 12 .i64 1,Mv 12 21])))⟩),(8,⟨some [0,5,22,23,24],some [0,5,22,23,24],.seq (.reg (some [0,5,22,23,24]) [Bt 25 .lss 3 24 23])
 (.seq (.cond (.tmp 25) .skip
 (.exit 2 (some [5])))
 (.seq (.block 3 (.seq (.reg (some [0,5,22,23,24]) [Ix 26 4 22 24,Ro 27 (.load 4 [.int .i64,.int .i64,.int .i64,.int .i64] (.tmp 26)),⟨some 9,none,.op true (.new 4 [.int .i64 0,.int .i64 0,.int .i64 0,.int .i64 0])⟩,⟨none,none,.op false (.store 4 (.tmp 9) (.tmp 27))⟩])
 (.seq (.draw (some [0,5,9,22,23,24]) 21 [Dr (Mv 28 0) 0 [1,2,3,6,7,8,9,10,11,12,13,14,15,16,17,18,19,20],Dr (Ro 29 (.ixS 4 (.tmp 28) (.const (.int .i64 0)))) 1 [2,3,6,7,8,9,10,11,12,13,14,15,16,17,18,19,20],Dr (Fa 30 2 29) 2 [3,6,7,8,9,10,11,12,13,14,15,16,17,18,19,20],Db (Ld 31 30) 3 30 [6,7,8,9,10,11,12,13,14,15,16,17,18,19,20],Dr (Fa 32 0 9) 4 [5,6,7,8,9,10,11,12,13,14,15,16,17,18,19,20],Db (Ld 33 32) 5 32 [6,7,8,9,10,11,12,13,14,15,16,17,18,19,20],⟨Ca 34 34 [.tmp 31,.tmp 33] (some (.val (.one (.int .i64)))),6,.all,[7,8,9,10,11,12,13,14,15,16,17,18,19,20],false,false⟩,Dr (Bc 35 .leq 3 34 .i64 0) 7 [8,9,10,11,12,13,14,15,16,17,18,19,20],Dr (Mv 36 35) 8 [9,10,11,12,13,14,15,16,17,18,19,20],⟨⟨some 37,some (36,true),.op false (.fieldAddr 0 (.tmp 9))⟩,9,.none,[10,18,19,20],false,true⟩,⟨⟨some 38,some (36,true),.op false (.load 2 [.int .i64,.int .i64] (.tmp 37))⟩,10,.blk (.tmp 37),[18,19,20],false,true⟩,⟨⟨some 39,some (36,true),.op false (.old (.move (.tmp 0)))⟩,11,.none,[15,16,17,18,19,20],false,true⟩,⟨⟨some 40,some (36,true),.op false (.old (.move (.tmp 0)))⟩,12,.none,[13,14,15,16,17,18,19,20],false,true⟩,⟨⟨some 41,some (36,true),.op false (.lenS (.tmp 40))⟩,13,.none,[14,15,16,17,18,19,20],false,true⟩,⟨⟨some 42,some (36,true),.op false (.old (.binOp .sub 3 (.tmp 41) (.const (.int .i64 1)) 3))⟩,14,.none,[15,16,17,18,19,20],false,true⟩,⟨⟨some 43,some (36,true),.op false (.ixS 4 (.tmp 39) (.tmp 42))⟩,15,.none,[16,17,18,19,20],false,true⟩,⟨⟨some 44,some (36,true),.op false (.fieldAddr 2 (.tmp 43))⟩,16,.none,[17,18,19,20],false,true⟩,⟨⟨some 45,some (36,true),.op false (.load 2 [.int .i64,.int .i64] (.tmp 44))⟩,17,.blk (.tmp 44),[18,19,20],false,true⟩,⟨⟨some 46,some (36,true),.call (.func 34) [.tmp 38,.tmp 45] (some (.val (.one (.int .i64))))⟩,18,.all,[19,20],false,false⟩,⟨⟨some 47,some (36,true),.op false (.old (.binOp .leq 3 (.tmp 46) (.const (.int .i64 0)) 3))⟩,19,.none,[20],false,true⟩,Dr (Ol 48 (.pick (.tmp 36) (.tmp 47) (.const (.bool false)))) 20 []])
 (.cond (.tmp 48) (.reg (some [0,5,9,22,23,24]) [Mv 49 5,Fa 50 0 9,Ld 51 50,Ro 52 (.buildSlice 2 1 [.int .i64 0,.int .i64 0] [(0,2,(.tmp 51))]),⟨some 53,none,.op false (.old (.call ⟨.builtin .append,#[.tmp 49,.tmp 52],#[69,69]⟩))⟩,As 5 53])
 .skip))))
 (.reg (some [0,5,22,23,24]) [Bc 54 .add 3 24 .i64 1,Mv 24 54])))⟩)],
 []⟩
theorem r39_ok : resFun (progU ()) hint live 39 Try.f39 = some r39:=by kernel_rfl
def r40 : RFun :=
⟨.seq (.reg (some [0,1]) [⟨some 3,none,.op true (.box 4 (.tmp 1))⟩,Ol 4 (.assign (.const (.slice none 0 0)))])
 (.seq (.reg (some [0,3]) [Ac 5 0])
 (.seq (.block 0 (.loop 2 (some [0,3,5]) (some [0,3,5])))
 (.seq (.seq (.draw (some [0,3,5]) 12 [Dr (Mv 23 5) 0 [3,4,5,6,7,8,9,10,11],Dr (Mv 24 0) 1 [2,3,4,5,6,7,8,9,10,11],Dr (Ro 25 (.lenS (.tmp 24))) 2 [3,4,5,6,7,8,9,10,11],Dr (Bt 26 .lss 3 23 25) 3 [4,5,6,7,8,9,10,11],Dr (Mv 27 26) 4 [5,6,7,8,9,10,11],⟨⟨some 28,some (27,true),.op false (.old (.move (.tmp 0)))⟩,5,.none,[7,8,10,11],false,true⟩,⟨⟨some 29,some (27,true),.op false (.old (.move (.tmp 5)))⟩,6,.none,[7,8,10,11],false,true⟩,⟨⟨some 30,some (27,true),.op false (.ixS 4 (.tmp 28) (.tmp 29))⟩,7,.none,[8,10,11],false,true⟩,⟨⟨some 31,some (27,true),.op false (.load 4 [.int .i64,.int .i64,.int .i64,.int .i64] (.tmp 30))⟩,8,.blk (.tmp 30),[10,11],false,true⟩,⟨⟨some 32,some (27,true),.op false (.load 4 [.int .i64,.int .i64,.int .i64,.int .i64] (.tmp 3))⟩,9,.blk (.tmp 3),[10,11],false,true⟩,⟨⟨some 33,some (27,true),.op false (.old (.binOp .eql 51 (.tmp 31) (.tmp 32) 51))⟩,10,.none,[11],false,true⟩,Dr (Ol 34 (.pick (.tmp 27) (.tmp 33) (.const (.bool false)))) 11 []])
 (.cond (.tmp 34) (.seq (.reg (some [0]) [Mv 35 0,As 4 35])
 .ret)
 .skip))
 (.seq (.reg (some [0,3,5]) [Ro 36 (.buildSlice 4 0 [] []),Mv 37 0,Mv 38 5,Ro 39 (.cutS 22 (.tmp 37) none (some (.tmp 38)) none),⟨some 40,none,.op false (.old (.call ⟨.builtin .append,#[.tmp 36,.tmp 39],#[22,22]⟩))⟩,As 6 40])
 (.seq (.draw (some [0,3,5,6]) 9 [Dr (Mv 41 6) 0 [3,7,8],Db (Ro 42 (.load 4 [.int .i64,.int .i64,.int .i64,.int .i64] (.tmp 3))) 1 3 [2,3,7,8],⟨Ro 43 (.buildSlice 4 1 [.int .i64 0,.int .i64 0,.int .i64 0,.int .i64 0] [(0,4,(.tmp 42))]),2,.new false,[3,7,8],false,true⟩,Dr (Mv 45 0) 4 [6,7,8],Dr (Mv 46 5) 5 [6,7,8],Dr (Ro 47 (.cutS 22 (.tmp 45) (some (.tmp 46)) none none)) 6 [7,8],⟨⟨some 44,none,.op false (.old (.call ⟨.builtin .append,#[.tmp 41,.tmp 43],#[22,22]⟩))⟩,3,.app [.tmp 41,.tmp 43],[7,8],false,false⟩,⟨⟨some 48,none,.op false (.old (.call ⟨.builtin .append,#[.tmp 44,.tmp 47],#[22,22]⟩))⟩,7,.app [.tmp 44,.tmp 47],[8],false,false⟩,Dr (As 4 48) 8 []])
 .ret))))),
 [.tmp 4],
 [(2,⟨some [0,3,5],some [0,3,5],.seq (.seq (.draw (some [0,3,5]) 14 [Dr (Mv 7 5) 0 [3,4,5,6,7,8,9,10,11,12,13],Dr (Mv 8 0) 1 [2,3,4,5,6,7,8,9,10,11,12,13],Dr (Ro 9 (.lenS (.tmp 8))) 2 [3,4,5,6,7,8,9,10,11,12,13],Dr (Bt 10 .lss 3 7 9) 3 [4,5,6,7,8,9,10,11,12,13],Dr (Mv 11 10) 4 [5,6,7,8,9,10,11,12,13],⟨⟨some 12,some (11,true),.op false (.old (.move (.tmp 0)))⟩,5,.none,[7,8,9,12,13],false,true⟩,⟨⟨some 13,some (11,true),.op false (.old (.move (.tmp 5)))⟩,6,.none,[7,8,9,12,13],false,true⟩,⟨⟨some 14,some (11,true),.op false (.ixS 4 (.tmp 12) (.tmp 13))⟩,7,.none,[8,9,12,13],false,true⟩,⟨⟨some 15,some (11,true),.op false (.fieldAddr 0 (.tmp 14))⟩,8,.none,[9,12,13],false,true⟩,⟨⟨some 16,some (11,true),.op false (.load 2 [.int .i64,.int .i64] (.tmp 15))⟩,9,.blk (.tmp 15),[12,13],false,true⟩,⟨⟨some 17,some (11,true),.op false (.fieldAddr 0 (.tmp 3))⟩,10,.none,[11,12,13],false,true⟩,⟨⟨some 18,some (11,true),.op false (.load 2 [.int .i64,.int .i64] (.tmp 17))⟩,11,.blk (.tmp 17),[12,13],false,true⟩,⟨⟨some 19,some (11,true),.call (.func 27) [.tmp 16,.tmp 18] (some (.val (.one .bool)))⟩,12,.all,[13],false,false⟩,Dr (Ol 20 (.pick (.tmp 11) (.tmp 19) (.const (.bool false)))) 13 []])
 (.cond (.tmp 20) .skip
 (.exit 0 (some [0,3,5]))))
 (.block 1 (.reg (some [0,3,5]) [Mv 21 5,Bc 22 .add 3 21 .i64 1,As 5 22]))⟩)],
 []⟩
theorem r40_ok : resFun (progU ()) hint live 40 Try.f40 = some r40:=by kernel_rfl
def r41 : RFun :=
⟨.seq (.reg (some [0,1]) [⟨some 4,none,.op true (.new 2 [.int .i64 0,.int .i64 0])⟩,Ac 5 0])
 (.seq (.seq (.reg (some [0,1,4]) [Mv 9 1,Bc 10 .eql 2 9 .i64 0])
 (.cond (.tmp 10) (.seq (.reg (some [4]) [Ro 11 (.build [.int .i64 0,.int .i64 0] []),⟨none,none,.op false (.store 2 (.tmp 4) (.tmp 11))⟩,Ac 5 18])
 .ret)
 .skip))
 (.seq (.reg (some [0,1,4]) [Mv 12 0,Ca 13 54 [.tmp 12] (some (.val (.one (.int .u64)))),Mv 14 1,Ca 15 54 [.tmp 14] (some (.val (.one (.int .u64)))),As 6 13,As 7 15])
 (.seq (.reg (some [0,1,4,6,7]) [Mv 16 6,Mv 17 7,Ca 18 53 [.tmp 16,.tmp 17] (some (.val (.one (.int .u64)))),As 8 18])
 (.seq (.draw (some [0,1,4,6,7,8]) 16 [Dr (Mv 19 0) 0 [1,4,11,12,13,14,15],Dr (Bc 20 .lss 2 19 .i64 0) 1 [4,11,12,13,14,15],Dr (Mv 21 1) 2 [3,4,11,12,13,14,15],Dr (Bc 22 .lss 2 21 .i64 0) 3 [4,11,12,13,14,15],Dr (Bt 23 .neq 4 20 22) 4 [11,12,13,14,15],Dr (Mv 24 6) 5 [7,11,12,13,14,15],Dr (Mv 25 8) 6 [7,11,12,13,14,15],Dr (Bt 26 .quo 80 24 25) 7 [11,12,13,14,15],Dr (Mv 27 7) 8 [10,11,12,13,14,15],Dr (Mv 28 8) 9 [10,11,12,13,14,15],Dr (Bt 29 .quo 80 27 28) 10 [11,12,13,14,15],⟨Ca 30 62 [.tmp 23,.tmp 26,.tmp 29] (some (.tup [.agg [.int .i64,.int .i64],.one (.int .i64)])),11,.all,[12,13,14,15],false,false⟩,Dr (Ex 31 30 0) 12 [14,15],Dr (Ex 32 30 1) 13 [14,15],⟨⟨none,none,.op false (.store 2 (.tmp 4) (.tmp 31))⟩,14,.blk (.tmp 4),[15],true,true⟩,Dr (As 5 32) 15 []])
 .ret)))),
 [.agg 4 2 [.int .i64,.int .i64],.tmp 5],
 [],
 []⟩
theorem r41_ok : resFun (progU ()) hint live 41 Try.f41 = some r41:=by kernel_rfl
def r42 : RFun :=
⟨.seq (.reg (some [0]) [Ac 2 0])
 (.seq (.seq (.reg (some [0]) [Mv 5 0,Ro 6 (.lenS (.tmp 5)),Bc 7 .gtr 3 6 .i64 511])
 (.cond (.tmp 7) (.seq (.reg (some []) [Ac 2 4])
 .ret)
 .skip))
 (.seq (.seq (.reg (some [0]) [Mv 8 0,Ro 9 (.lenS (.tmp 8)),Bc 10 .rem 3 9 .i64 2,Bc 11 .eql 3 10 .i64 0])
 (.cond (.tmp 11) (.seq (.reg (some []) [Ac 2 8])
 .ret)
 .skip))
 (.seq (.seq (.reg (some [0]) [Mv 12 0,Ro 13 (.lenS (.tmp 12)),Ol 14 (.move (.const (.int .i64 0)))])
 (.block 0 (.loop 6 (some [12,13,14]) (some [12,13,14]))))
 (.seq (.reg (some []) [Ac 2 0])
 .ret)))),
 [.tmp 2],
 [(6,⟨some [12,13,14],some [12,13,14],.seq (.reg (some [12,13,14]) [Bt 15 .lss 3 14 13])
 (.seq (.cond (.tmp 15) .skip
 (.exit 0 (some [])))
 (.seq (.block 1 (.seq (.reg (some [12,13,14]) [Ix 16 2 12 14,Ld 17 16,⟨some 4,none,.op true (.new 2 [.int .i64 0,.int .i64 0])⟩,⟨none,none,.op false (.store 2 (.tmp 4) (.tmp 17))⟩])
 (.seq (.seq (.reg (some [4,12,13,14]) [Fa 18 1 4,L1 19 18,Bc 20 .lss 3 19 .i64 0,Mv 21 20,⟨some 22,some (21,false),.op false (.fieldAddr 1 (.tmp 4))⟩,⟨some 23,some (21,false),.op false (.load1 (.int .i64) (.tmp 22))⟩,⟨some 24,some (21,false),.op false (.old (.binOp .gtr 3 (.tmp 23) (.const (.int .i64 256)) 3))⟩,Ol 25 (.pick (.tmp 21) (.const (.bool true)) (.tmp 24)),Mv 26 25,⟨some 27,some (26,false),.op false (.fieldAddr 0 (.tmp 4))⟩,⟨some 28,some (26,false),.op false (.load1 (.int .i64) (.tmp 27))⟩,⟨some 29,some (26,false),.op false (.fieldAddr 1 (.tmp 4))⟩,⟨some 30,some (26,false),.op false (.load1 (.int .i64) (.tmp 29))⟩,⟨some 31,some (26,false),.op false (.old (.binOp .mul 3 (.const (.int .i64 (-9))) (.tmp 30) 3))⟩,⟨some 32,some (26,false),.op false (.old (.binOp .lss 3 (.tmp 28) (.tmp 31) 3))⟩,Ol 33 (.pick (.tmp 26) (.const (.bool true)) (.tmp 32)),Mv 34 33,⟨some 35,some (34,false),.op false (.fieldAddr 0 (.tmp 4))⟩,⟨some 36,some (34,false),.op false (.load1 (.int .i64) (.tmp 35))⟩,⟨some 37,some (34,false),.op false (.fieldAddr 1 (.tmp 4))⟩,⟨some 38,some (34,false),.op false (.load1 (.int .i64) (.tmp 37))⟩,⟨some 39,some (34,false),.op false (.old (.binOp .mul 3 (.const (.int .i64 9)) (.tmp 38) 3))⟩,⟨some 40,some (34,false),.op false (.old (.binOp .gtr 3 (.tmp 36) (.tmp 39) 3))⟩,Ol 41 (.pick (.tmp 34) (.const (.bool true)) (.tmp 40))])
 (.cond (.tmp 41) (.seq (.reg (some []) [Ac 2 8])
 .ret)
 .skip))
 (.seq (.reg (some [4,12,13,14]) [Fa 42 0 4,L1 43 42,Fa 44 1 4,L1 45 44,Bt 46 .sub 3 43 45,Bc 47 .rem 3 46 .i64 2,Bc 48 .neq 3 47 .i64 0])
 (.cond (.tmp 48) (.seq (.reg (some []) [Ac 2 8])
 .ret)
 .skip)))))
 (.reg (some [12,13,14]) [Bc 49 .add 3 14 .i64 1,Mv 14 49])))⟩)],
 []⟩
theorem r42_ok : resFun (progU ()) hint live 42 Try.f42 = some r42:=by kernel_rfl
def r43 : RFun :=
⟨.seq (.reg (some [0,1]) [⟨some 2,none,.op true (.box 2 (.tmp 0))⟩,⟨some 3,none,.op true (.box 2 (.tmp 1))⟩,⟨some 4,none,.op true (.new 2 [.int .i64 0,.int .i64 0])⟩,Ac 5 0])
 (.seq (.seq (.reg (some [2,3,4]) [Ld 8 2,Ld 9 3,Ca 10 63 [.tmp 8,.tmp 9] (some (.val (.one (.int .i64)))),As 6 10])
 (.seq (.reg (some [2,3,4,6]) [Mv 11 6,Bc 12 .neq 26 11 .i64 0])
 (.cond (.tmp 12) (.seq (.reg (some [4,6]) [Ro 13 (.build [.int .i64 0,.int .i64 0] []),Mv 14 6,⟨none,none,.op false (.store 2 (.tmp 4) (.tmp 13))⟩,As 5 14])
 .ret)
 .skip)))
 (.seq (.seq (.reg (some [2,3,4]) [Fa 15 0 3,L1 16 15,Bc 17 .eql 2 16 .i64 0])
 (.cond (.tmp 17) (.seq (.reg (some [4]) [Ro 18 (.build [.int .i64 0,.int .i64 0] []),⟨none,none,.op false (.store 2 (.tmp 4) (.tmp 18))⟩,Ac 5 18])
 .ret)
 .skip))
 (.seq (.reg (some [2,3,4]) [Fa 19 1 3,L1 20 19,Fa 21 0 3,L1 22 21,Ro 23 (.build [.int .i64 0,.int .i64 0] [(0,1,(.tmp 20)),(1,1,(.tmp 22))]),⟨some 7,none,.op true (.new 2 [.int .i64 0,.int .i64 0])⟩,⟨none,none,.op false (.store 2 (.tmp 7) (.tmp 23))⟩])
 (.seq (.seq (.reg (some [2,3,4,7]) [Fa 24 0 3,L1 25 24,Bc 26 .lss 2 25 .i64 0])
 (.cond (.tmp 26) (.reg (some [2,3,4,7]) [Fa 27 1 3,L1 28 27,Ol 29 (.unOp .neg 2 (.tmp 28)),Fa 30 0 3,L1 31 30,Ol 32 (.unOp .neg 2 (.tmp 31)),Ro 33 (.build [.int .i64 0,.int .i64 0] [(0,1,(.tmp 29)),(1,1,(.tmp 32))]),⟨none,none,.op false (.store 2 (.tmp 7) (.tmp 33))⟩])
 .skip))
 (.seq (.reg (some [2,4,7]) [Ld 34 2,Ld 35 7,Ca 36 64 [.tmp 34,.tmp 35] (some (.tup [.agg [.int .i64,.int .i64],.one (.int .i64)])),Ex 37 36 0,Ex 38 36 1,⟨none,none,.op false (.store 2 (.tmp 4) (.tmp 37))⟩,As 5 38])
 .ret))))),
 [.agg 4 2 [.int .i64,.int .i64],.tmp 5],
 [],
 []⟩
theorem r43_ok : resFun (progU ()) hint live 43 Try.f43 = some r43:=by kernel_rfl
def r44 : RFun :=
⟨.seq (.reg (some [0]) [Ac 2 0])
 (.seq (.seq (.reg (some [0]) [Mv 5 0,Ro 6 (.lenS (.tmp 5)),Bc 7 .gtr 3 6 .i64 511])
 (.cond (.tmp 7) (.seq (.reg (some []) [Ac 2 4])
 .ret)
 .skip))
 (.seq (.seq (.reg (some [0]) [Mv 8 0,Ro 9 (.lenS (.tmp 8)),Ca 10 65 [.tmp 9] (some (.val (.one .bool)))])
 (.cond (.tmp 10) (.seq (.reg (some []) [Ac 2 8])
 .ret)
 .skip))
 (.seq (.seq (.reg (some [0]) [Ac 3 0])
 (.block 0 (.loop 6 (some [0,3]) (some [0,3]))))
 (.seq (.reg (some []) [Ac 2 0])
 .ret)))),
 [.tmp 2],
 [(6,⟨some [0,3],some [0,3],.seq (.seq (.reg (some [0,3]) [Mv 11 3,Mv 12 0,Ro 13 (.lenS (.tmp 12)),Bt 14 .lss 3 11 13])
 (.cond (.tmp 14) .skip
 (.exit 0 (some []))))
 (.seq (.block 1 (.seq (.reg (some [0,3]) [Mv 17 0,Mv 18 3,Ix 19 2 17 18,Ld 20 19,⟨some 4,none,.op true (.new 2 [.int .i64 0,.int .i64 0])⟩,⟨none,none,.op false (.store 2 (.tmp 4) (.tmp 20))⟩])
 (.seq (.draw (some [0,3,4]) 33 [Dr (Fa 21 1 4) 0 [1,2,3,4,5,6,7,8,9,10,11,12,13,14,15,16,17,18,19,20,21,22,23,24,25,26,27,28,29,30,31,32],Db (L1 22 21) 1 21 [2,3,4,5,6,7,8,9,10,11,12,13,14,15,16,17,18,19,20,21,22,23,24,25,26,27,28,29,30,31,32],Dr (Bc 23 .lss 3 22 .i64 0) 2 [3,4,5,6,7,8,9,10,11,12,13,14,15,16,17,18,19,20,21,22,23,24,25,26,27,28,29,30,31,32],Dr (Mv 24 23) 3 [4,5,6,7,8,9,10,11,12,13,14,15,16,17,18,19,20,21,22,23,24,25,26,27,28,29,30,31,32],⟨⟨some 25,some (24,false),.op false (.fieldAddr 1 (.tmp 4))⟩,4,.none,[5,6,7,8,9,10,11,12,13,14,15,16,17,18,19,20,21,22,23,24,25,26,27,28,29,30,31,32],false,true⟩,⟨⟨some 26,some (24,false),.op false (.load1 (.int .i64) (.tmp 25))⟩,5,.blk (.tmp 25),[6,7,8,9,10,11,12,13,14,15,16,17,18,19,20,21,22,23,24,25,26,27,28,29,30,31,32],false,true⟩,⟨⟨some 27,some (24,false),.op false (.old (.binOp .gtr 3 (.tmp 26) (.const (.int .i64 256)) 3))⟩,6,.none,[7,8,9,10,11,12,13,14,15,16,17,18,19,20,21,22,23,24,25,26,27,28,29,30,31,32],false,true⟩,Dr (Ol 28 (.pick (.tmp 24) (.const (.bool true)) (.tmp 27))) 7 [8,9,10,11,12,13,14,15,16,17,18,19,20,21,22,23,24,25,26,27,28,29,30,31,32],Dr (Mv 29 28) 8 [9,10,11,12,13,14,15,16,17,18,19,20,21,22,23,24,25,26,27,28,29,30,31,32],⟨⟨some 30,some (29,false),.op false (.fieldAddr 0 (.tmp 4))⟩,9,.none,[10,14,15,16,17,18,19,20,21,22,23,24,25,26,27,28,29,30,31,32],false,true⟩,⟨⟨some 31,some (29,false),.op false (.load1 (.int .i64) (.tmp 30))⟩,10,.blk (.tmp 30),[14,15,16,17,18,19,20,21,22,23,24,25,26,27,28,29,30,31,32],false,true⟩,⟨⟨some 32,some (29,false),.op false (.fieldAddr 1 (.tmp 4))⟩,11,.none,[12,13,14,15,16,17,18,19,20,21,22,23,24,25,26,27,28,29,30,31,32],false,true⟩,⟨⟨some 33,some (29,false),.op false (.load1 (.int .i64) (.tmp 32))⟩,12,.blk (.tmp 32),[13,14,15,16,17,18,19,20,21,22,23,24,25,26,27,28,29,30,31,32],false,true⟩,⟨⟨some 34,some (29,false),.op false (.old (.binOp .mul 3 (.const (.int .i64 (-9))) (.tmp 33) 3))⟩,13,.none,[14,15,16,17,18,19,20,21,22,23,24,25,26,27,28,29,30,31,32],false,true⟩,⟨⟨some 35,some (29,false),.op false (.old (.binOp .lss 3 (.tmp 31) (.tmp 34) 3))⟩,14,.none,[15,16,17,18,19,20,21,22,23,24,25,26,27,28,29,30,31,32],false,true⟩,Dr (Ol 36 (.pick (.tmp 29) (.const (.bool true)) (.tmp 35))) 15 [16,17,18,19,20,21,22,23,24,25,26,27,28,29,30,31,32],Dr (Mv 37 36) 16 [17,18,19,20,21,22,23,24,25,26,27,28,29,30,31,32],⟨⟨some 38,some (37,false),.op false (.fieldAddr 0 (.tmp 4))⟩,17,.none,[18,22,23,24,25,26,27,28,29,30,31,32],false,true⟩,⟨⟨some 39,some (37,false),.op false (.load1 (.int .i64) (.tmp 38))⟩,18,.blk (.tmp 38),[22,23,24,25,26,27,28,29,30,31,32],false,true⟩,⟨⟨some 40,some (37,false),.op false (.fieldAddr 1 (.tmp 4))⟩,19,.none,[20,21,22,23,24,25,26,27,28,29,30,31,32],false,true⟩,⟨⟨some 41,some (37,false),.op false (.load1 (.int .i64) (.tmp 40))⟩,20,.blk (.tmp 40),[21,22,23,24,25,26,27,28,29,30,31,32],false,true⟩,⟨⟨some 42,some (37,false),.op false (.old (.binOp .mul 3 (.const (.int .i64 9)) (.tmp 41) 3))⟩,21,.none,[22,23,24,25,26,27,28,29,30,31,32],false,true⟩,⟨⟨some 43,some (37,false),.op false (.old (.binOp .gtr 3 (.tmp 39) (.tmp 42) 3))⟩,22,.none,[23,24,25,26,27,28,29,30,31,32],false,true⟩,Dr (Ol 44 (.pick (.tmp 37) (.const (.bool true)) (.tmp 43))) 23 [24,25,26,27,28,29,30,31,32],Dr (Mv 45 44) 24 [25,26,27,28,29,30,31,32],⟨⟨some 46,some (45,false),.op false (.fieldAddr 0 (.tmp 4))⟩,25,.none,[26,27,30,31,32],false,true⟩,⟨⟨some 47,some (45,false),.op false (.load1 (.int .i64) (.tmp 46))⟩,26,.blk (.tmp 46),[27,30,31,32],false,true⟩,⟨⟨some 49,some (45,false),.op false (.fieldAddr 1 (.tmp 4))⟩,28,.none,[29,30,31,32],false,true⟩,⟨⟨some 50,some (45,false),.op false (.load1 (.int .i64) (.tmp 49))⟩,29,.blk (.tmp 49),[30,31,32],false,true⟩,⟨⟨some 48,some (45,false),.call (.func 65) [.tmp 47] (some (.val (.one .bool)))⟩,27,.all,[30,31,32],false,false⟩,⟨⟨some 51,some (45,false),.call (.func 65) [.tmp 50] (some (.val (.one .bool)))⟩,30,.all,[31,32],false,false⟩,⟨⟨some 52,some (45,false),.op false (.old (.binOp .neq 4 (.tmp 48) (.tmp 51) 4))⟩,31,.none,[32],false,true⟩,Dr (Ol 53 (.pick (.tmp 45) (.const (.bool true)) (.tmp 52))) 32 []])
 (.cond (.tmp 53) (.seq (.reg (some []) [Ac 2 8])
 .ret)
 .skip))))
 (.reg (some [0,3]) [Mv 15 3,Bc 16 .add 3 15 .i64 1,As 3 16]))⟩)],
 []⟩
theorem r44_ok : resFun (progU ()) hint live 44 Try.f44 = some r44:=by kernel_rfl
def r45 : RFun :=
⟨.seq (.reg (some [0,1]) [⟨some 2,none,.op true (.box 2 (.tmp 0))⟩,⟨some 3,none,.op true (.box 2 (.tmp 1))⟩,⟨some 4,none,.op true (.new 2 [.int .i64 0,.int .i64 0])⟩,Ac 5 0])
 (.seq (.seq (.reg (some [2,3,4]) [Ld 6 2,Ld 7 3,Ca 8 66 [.tmp 6,.tmp 7] (some (.val (.one (.int .i64)))),Bc 9 .neq 3 8 .i64 0])
 (.cond (.tmp 9) (.seq (.reg (some [2,3,4]) [Ro 10 (.build [.int .i64 0,.int .i64 0] []),Ld 11 2,Ld 12 3,Ca 13 66 [.tmp 11,.tmp 12] (some (.val (.one (.int .i64)))),⟨none,none,.op false (.store 2 (.tmp 4) (.tmp 10))⟩,As 5 13])
 .ret)
 .skip))
 (.seq (.seq (.reg (some [2,3,4]) [Fa 14 0 3,L1 15 14,Bc 16 .eql 2 15 .i64 0])
 (.cond (.tmp 16) (.seq (.reg (some [4]) [Ro 17 (.build [.int .i64 0,.int .i64 0] []),⟨none,none,.op false (.store 2 (.tmp 4) (.tmp 17))⟩,Ac 5 18])
 .ret)
 .skip))
 (.seq (.seq (.reg (some [2,3,4]) [Fa 18 0 3,L1 19 18,Bc 20 .lss 2 19 .i64 0])
 (.cond (.tmp 20) (.seq (.reg (some [2,3,4]) [Ld 21 2,Fa 22 1 3,L1 23 22,Ol 24 (.unOp .neg 2 (.tmp 23)),Fa 25 0 3,L1 26 25,Ol 27 (.unOp .neg 2 (.tmp 26)),Ro 28 (.build [.int .i64 0,.int .i64 0] [(0,1,(.tmp 24)),(1,1,(.tmp 27))]),Ca 29 67 [.tmp 21,.tmp 28] (some (.tup [.agg [.int .i64,.int .i64],.one (.int .i64)])),Ex 30 29 0,Ex 31 29 1,⟨none,none,.op false (.store 2 (.tmp 4) (.tmp 30))⟩,As 5 31])
 .ret)
 .skip))
 (.seq (.reg (some [2,3,4]) [Ld 32 2,Fa 33 1 3,L1 34 33,Fa 35 0 3,L1 36 35,Ro 37 (.build [.int .i64 0,.int .i64 0] [(0,1,(.tmp 34)),(1,1,(.tmp 36))]),Ca 38 67 [.tmp 32,.tmp 37] (some (.tup [.agg [.int .i64,.int .i64],.one (.int .i64)])),Ex 39 38 0,Ex 40 38 1,⟨none,none,.op false (.store 2 (.tmp 4) (.tmp 39))⟩,As 5 40])
 .ret)))),
 [.agg 4 2 [.int .i64,.int .i64],.tmp 5],
 [],
 []⟩
theorem r45_ok : resFun (progU ()) hint live 45 Try.f45 = some r45:=by kernel_rfl
def r46 : RFun :=
⟨.seq (.reg (some [0,1]) [⟨some 2,none,.op true (.box 2 (.tmp 0))⟩,⟨some 3,none,.op true (.box 2 (.tmp 1))⟩,Ac 4 0,Ac 5 0])
 (.seq (.seq (.reg (some [2,3]) [Ld 6 2,Ld 7 3,Ca 8 66 [.tmp 6,.tmp 7] (some (.val (.one (.int .i64)))),Bc 9 .neq 3 8 .i64 0])
 (.cond (.tmp 9) (.seq (.reg (some [2,3]) [Ld 10 2,Ld 11 3,Ca 12 66 [.tmp 10,.tmp 11] (some (.val (.one (.int .i64)))),Ac 4 0,As 5 12])
 .ret)
 .skip))
 (.seq (.seq (.reg (some [2,3]) [Ld 13 2,Ld 14 3,Bt 15 .eql 24 13 14])
 (.cond (.tmp 15) (.seq (.reg (some []) [Ac 4 0,Ac 5 0])
 .ret)
 .skip))
 (.seq (.seq (.reg (some [2,3]) [Ld 16 2,Ld 17 3,Ca 18 68 [.tmp 16,.tmp 17] (some (.val (.one .bool)))])
 (.cond (.tmp 18) (.seq (.reg (some []) [Ol 4 (.assign (.const (.int .i64 (-1)))),Ac 5 0])
 .ret)
 .skip))
 (.seq (.reg (some []) [Ac 4 1,Ac 5 0])
 .ret)))),
 [.tmp 4,.tmp 5],
 [],
 []⟩
theorem r46_ok : resFun (progU ()) hint live 46 Try.f46 = some r46:=by kernel_rfl
def r47 : RFun :=
⟨.seq (.reg (some [0,1]) [Ol 4 (.assign (.const (.int .u64 0)))])
 (.seq (.block 0 (.loop 1 (some [0,1]) (some [0,1])))
 (.seq (.reg (some [0]) [Mv 11 0,As 4 11])
 .ret)),
 [.tmp 4],
 [(1,⟨some [0,1],some [0,1],.seq (.seq (.reg (some [0,1]) [Mv 5 1,Bc 6 .neq 80 5 .u64 0])
 (.cond (.tmp 6) .skip
 (.exit 0 (some [0]))))
 (.block 1 (.draw (some [0,1]) 6 [Dr (Mv 7 1) 0 [4,5],Dr (Mv 8 0) 1 [3,4,5],Dr (Mv 9 1) 2 [3,5],Dr (Bt 10 .rem 80 8 9) 3 [5],Dr (As 0 7) 4 [5],Dr (As 1 10) 5 []]))⟩)],
 []⟩
theorem r47_ok : resFun (progU ()) hint live 47 Try.f47 = some r47:=by kernel_rfl
def r48 : RFun :=
⟨.seq (.reg (some [0]) [Ol 2 (.assign (.const (.int .u64 0)))])
 (.seq (.seq (.reg (some [0]) [Mv 3 0,Bc 4 .geq 2 3 .i64 0])
 (.cond (.tmp 4) (.seq (.reg (some [0]) [Mv 5 0,Ro 6 (.convI .u64 (.tmp 5)),As 2 6])
 .ret)
 .skip))
 (.seq (.reg (some [0]) [Mv 7 0,Bc 8 .add 2 7 .i64 1,Ol 9 (.unOp .neg 2 (.tmp 8)),Ro 10 (.convI .u64 (.tmp 9)),Bc 11 .add 80 10 .u64 1,As 2 11])
 .ret)),
 [.tmp 2],
 [],
 []⟩
theorem r48_ok : resFun (progU ()) hint live 48 Try.f48 = some r48:=by kernel_rfl
end Go.Proofs.Ytnokkniofajnhaa
