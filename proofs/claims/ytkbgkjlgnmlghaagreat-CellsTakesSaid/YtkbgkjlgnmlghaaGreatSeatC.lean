import Derived.Test.YtkbgkjlgnmlghaaGreatSeat0
import Derived.Test.YtkbgkjlgnmlghaaGreatSymS
set_option linter.unusedSimpArgs false
set_option linter.unusedVariables false
namespace Go.Proofs.YtkbgkjlgnmlghaaGreat
open Go.Sim
set_option maxRecDepth 100000
def r45 : RFun :=
⟨.seq (.reg (some [0,1]) [Ol 4 (.assign (.const (.slice none 0 0)))])
 (.seq (.seq (.reg (some [0,1]) [Mv 5 1,Bc 6 .lss 3 5 .i64 0])
 (.cond (.tmp 6) (.reg (some [0,1]) [⟨some 7,none,.op false (.old (.makeInterface 9 (.const (.string ⟨#[99,97,110,110,111,116,32,98,101,32,110,101,103,97,116,105,118,101]⟩))))⟩,⟨none,none,.op false (.old (.panic (.tmp 7)))⟩])
 .skip))
 (.seq (.seq (.reg (some [0,1]) [Mv 8 1,Mv 9 0,⟨some 10,none,.op false (.old (.call ⟨.builtin .cap,#[.tmp 9],#[24]⟩))⟩,Mv 11 0,Ro 12 (.lenS (.tmp 11)),Bt 13 .sub 3 10 12,Bt 14 .sub 3 8 13,As 1 14])
 (.seq (.reg (some [0,1]) [Mv 15 1,Bc 16 .gtr 3 15 .i64 0])
 (.cond (.tmp 16) (.reg (some [0,1]) [Mv 17 0,Mv 18 0,⟨some 19,none,.op false (.old (.call ⟨.builtin .cap,#[.tmp 18],#[24]⟩))⟩,Ro 20 (.cutS 24 (.tmp 17) none (some (.tmp 19)) none),Mv 21 1,⟨some 22,none,.op false (.old (.call ⟨.builtin .append,#[.tmp 20,.tmp 21],#[24,3]⟩))⟩,Mv 23 0,Ro 24 (.lenS (.tmp 23)),Ro 25 (.cutS 24 (.tmp 22) none (some (.tmp 24)) none),As 0 25])
 .skip)))
 (.seq (.reg (some [0]) [Mv 26 0,As 4 26])
 .ret))),
 [.tmp 4],
 [],
 []⟩
theorem r45_ok : resFun (progU ()) hint live 45 Tryz.f45 = some r45:=by kernel_rfl
def r46 : RFun :=
⟨.seq (.reg (some [0]) [⟨some 1,none,.op true (.box 2 (.tmp 0))⟩,Ac 2 0])
 (.seq (.seq (.reg (some [1]) [Fa 3 1 1,L1 4 3,Bc 5 .lss 2 4 .i64 1,Mv 6 5,⟨some 7,some (6,false),.op false (.fieldAddr 1 (.tmp 1))⟩,⟨some 8,some (6,false),.op false (.load1 (.int .i64) (.tmp 7))⟩,⟨some 9,some (6,false),.op false (.old (.binOp .gtr 2 (.tmp 8) (.const (.int .i64 1000000000000000000)) 2))⟩,Ol 10 (.pick (.tmp 6) (.const (.bool true)) (.tmp 9)),Mv 11 10,⟨some 12,some (11,false),.op false (.fieldAddr 0 (.tmp 1))⟩,⟨some 13,some (11,false),.op false (.load1 (.int .i64) (.tmp 12))⟩,⟨some 14,some (11,false),.op false (.old (.binOp .lss 2 (.tmp 13) (.const (.int .i64 (-1000000000000000000))) 2))⟩,Ol 15 (.pick (.tmp 11) (.const (.bool true)) (.tmp 14)),Mv 16 15,⟨some 17,some (16,false),.op false (.fieldAddr 0 (.tmp 1))⟩,⟨some 18,some (16,false),.op false (.load1 (.int .i64) (.tmp 17))⟩,⟨some 19,some (16,false),.op false (.old (.binOp .gtr 2 (.tmp 18) (.const (.int .i64 1000000000000000000)) 2))⟩,Ol 20 (.pick (.tmp 16) (.const (.bool true)) (.tmp 19))])
 (.cond (.tmp 20) (.seq (.reg (some []) [Ac 2 8])
 .ret)
 .skip))
 (.seq (.seq (.draw (some [1]) 8 [Dr (Fa 21 0 1) 0 [1,2,5,6,7],Db (L1 22 21) 1 21 [2,5,6,7],Dr (Fa 24 1 1) 3 [4,5,6,7],Db (L1 25 24) 4 24 [5,6,7],⟨Ca 23 71 [.tmp 22] (some (.val (.one (.int .u64)))),2,.all,[5,6,7],false,false⟩,⟨Ca 26 71 [.tmp 25] (some (.val (.one (.int .u64)))),5,.all,[6,7],false,false⟩,⟨Ca 27 70 [.tmp 23,.tmp 26] (some (.val (.one (.int .u64)))),6,.all,[7],false,false⟩,Dr (Bc 28 .neq 100 27 .u64 1) 7 []])
 (.cond (.tmp 28) (.seq (.reg (some []) [Ac 2 8])
 .ret)
 .skip))
 (.seq (.reg (some []) [Ac 2 0])
 .ret))),
 [.tmp 2],
 [],
 []⟩
theorem r46_ok : resFun (progU ()) hint live 46 Tryz.f46 = some r46:=by kernel_rfl
def r47 : RFun :=
⟨.seq (.reg (some [0,1]) [⟨some 2,none,.op true (.box 2 (.tmp 0))⟩,⟨some 3,none,.op true (.box 2 (.tmp 1))⟩,Ac 4 0,Ac 5 0])
 (.seq (.seq (.reg (some [2,3]) [Ld 7 2,Ld 8 3,Ca 9 50 [.tmp 7,.tmp 8] (some (.val (.one (.int .i64)))),As 6 9])
 (.seq (.reg (some [2,3,6]) [Mv 10 6,Bc 11 .neq 27 10 .i64 0])
 (.cond (.tmp 11) (.seq (.reg (some [6]) [Mv 12 6,Ac 4 0,As 5 12])
 .ret)
 .skip)))
 (.seq (.reg (some [2,3]) [Ld 13 2,Ld 14 3,Ca 15 72 [.tmp 13,.tmp 14] (some (.val (.one (.int .i64)))),As 4 15,Ac 5 0])
 .ret)),
 [.tmp 4,.tmp 5],
 [],
 []⟩
theorem r47_ok : resFun (progU ()) hint live 47 Tryz.f47 = some r47:=by kernel_rfl
def r48 : RFun :=
⟨.seq (.reg (some [0]) [⟨some 1,none,.op true (.box 2 (.tmp 0))⟩,Ac 2 0,Ac 3 0])
 (.seq (.seq (.reg (some [1]) [Ld 5 1,Ca 6 46 [.tmp 5] (some (.val (.one (.int .i64)))),As 4 6])
 (.seq (.reg (some [1,4]) [Mv 7 4,Bc 8 .neq 27 7 .i64 0])
 (.cond (.tmp 8) (.seq (.reg (some [4]) [Mv 9 4,Ac 2 0,As 3 9])
 .ret)
 .skip)))
 (.seq (.reg (some [1]) [Fa 10 0 1,L1 11 10,Fa 12 1 1,L1 13 12,Ca 14 73 [.tmp 11,.tmp 13] (some (.val (.one (.int .i64)))),As 2 14,Ac 3 0])
 .ret)),
 [.tmp 2,.tmp 3],
 [],
 []⟩
theorem r48_ok : resFun (progU ()) hint live 48 Tryz.f48 = some r48:=by kernel_rfl
def r49 : RFun :=
⟨.seq (.reg (some [0,1]) [⟨some 2,none,.op true (.box 2 (.tmp 0))⟩,⟨some 3,none,.op true (.box 2 (.tmp 1))⟩,⟨some 4,none,.op true (.new 2 [.int .i64 0,.int .i64 0])⟩,Ac 5 0])
 (.seq (.seq (.reg (some [2,3,4]) [Ld 7 2,Ld 8 3,Ca 9 50 [.tmp 7,.tmp 8] (some (.val (.one (.int .i64)))),As 6 9])
 (.seq (.reg (some [2,3,4,6]) [Mv 10 6,Bc 11 .neq 27 10 .i64 0])
 (.cond (.tmp 11) (.seq (.reg (some [4,6]) [Ro 12 (.build [.int .i64 0,.int .i64 0] []),Mv 13 6,⟨none,none,.op false (.store 2 (.tmp 4) (.tmp 12))⟩,As 5 13])
 .ret)
 .skip)))
 (.seq (.reg (some [2,3,4]) [Ld 14 2,Fa 15 0 3,L1 16 15,Ol 17 (.unOp .neg 2 (.tmp 16)),Fa 18 1 3,L1 19 18,Ro 20 (.build [.int .i64 0,.int .i64 0] [(0,1,(.tmp 17)),(1,1,(.tmp 19))]),Ca 21 74 [.tmp 14,.tmp 20] (some (.tup [.agg [.int .i64,.int .i64],.one (.int .i64)])),Ex 22 21 0,Ex 23 21 1,⟨none,none,.op false (.store 2 (.tmp 4) (.tmp 22))⟩,As 5 23])
 .ret)),
 [.agg 4 2 [.int .i64,.int .i64],.tmp 5],
 [],
 []⟩
theorem r49_ok : resFun (progU ()) hint live 49 Tryz.f49 = some r49:=by kernel_rfl
def r50 : RFun :=
⟨.seq (.reg (some [0,1]) [⟨some 2,none,.op true (.box 2 (.tmp 0))⟩,⟨some 3,none,.op true (.box 2 (.tmp 1))⟩,Ac 4 0])
 (.seq (.seq (.reg (some [2,3]) [Ld 6 2,Ca 7 46 [.tmp 6] (some (.val (.one (.int .i64)))),As 5 7])
 (.seq (.reg (some [3,5]) [Mv 8 5,Bc 9 .neq 27 8 .i64 0])
 (.cond (.tmp 9) (.seq (.reg (some [5]) [Mv 10 5,As 4 10])
 .ret)
 .skip)))
 (.seq (.reg (some [3]) [Ld 11 3,Ca 12 46 [.tmp 11] (some (.val (.one (.int .i64)))),As 4 12])
 .ret)),
 [.tmp 4],
 [],
 []⟩
theorem r50_ok : resFun (progU ()) hint live 50 Tryz.f50 = some r50:=by kernel_rfl
def r51 : RFun :=
⟨.seq (.reg (some [0,1]) [⟨some 2,none,.op true (.box 2 (.tmp 0))⟩,⟨some 3,none,.op true (.box 2 (.tmp 1))⟩,⟨some 4,none,.op true (.new 2 [.int .i64 0,.int .i64 0])⟩,Ac 5 0])
 (.seq (.draw (some [2,3,4]) 16 [Dr (Fa 16 0 2) 0 [1,2,5,8,11,12,13,14,15],Db (L1 17 16) 1 16 [2,5,8,11,12,13,14,15],Dr (Fa 19 1 2) 3 [4,5,8,11,12,13,14,15],Db (L1 20 19) 4 19 [5,8,11,12,13,14,15],Dr (Fa 22 0 3) 6 [7,8,11,12,13,14,15],Db (L1 23 22) 7 22 [8,11,12,13,14,15],Dr (Fa 25 1 3) 9 [10,11,12,13,14,15],Db (L1 26 25) 10 25 [11,12,13,14,15],⟨Ca 18 71 [.tmp 17] (some (.val (.one (.int .u64)))),2,.all,[5,8,11,12,13,14,15],false,false⟩,⟨Ca 21 71 [.tmp 20] (some (.val (.one (.int .u64)))),5,.all,[8,11,12,13,14,15],false,false⟩,⟨Ca 24 71 [.tmp 23] (some (.val (.one (.int .u64)))),8,.all,[11,12,13,14,15],false,false⟩,⟨Ca 27 71 [.tmp 26] (some (.val (.one (.int .u64)))),11,.all,[12,13,14,15],false,false⟩,Dr (As 6 18) 12 [13,14,15],Dr (As 7 21) 13 [14,15],Dr (As 8 24) 14 [15],Dr (As 9 27) 15 []])
 (.seq (.reg (some [2,3,4,6,7,8,9]) [Mv 28 6,Mv 29 9,Ca 30 70 [.tmp 28,.tmp 29] (some (.val (.one (.int .u64)))),Mv 31 8,Mv 32 7,Ca 33 70 [.tmp 31,.tmp 32] (some (.val (.one (.int .u64)))),As 10 30,As 11 33])
 (.seq (.draw (some [2,3,4,6,7,8,9,10,11]) 12 [Dr (Mv 35 6) 0 [2,6,7,8,9,10,11],Dr (Mv 36 10) 1 [2,6,7,8,9,10,11],Dr (Bt 37 .quo 100 35 36) 2 [6,7,8,9,10,11],Dr (Mv 38 8) 3 [5,6,7,8,9,10,11],Dr (Mv 39 11) 4 [5,6,7,8,9,10,11],Dr (Bt 40 .quo 100 38 39) 5 [6,7,8,9,10,11],⟨Ca 41 75 [.tmp 37,.tmp 40] (some (.tup [.one (.int .u64),.one (.int .u64)])),6,.all,[7,8,9,10,11],false,false⟩,Dr (Mv 34 41) 7 [8,9,10,11],Dr (Ex 42 34 0) 8 [10,11],Dr (Ex 43 34 1) 9 [11],Dr (As 12 42) 10 [11],Dr (As 13 43) 11 []])
 (.seq (.draw (some [2,3,4,7,9,10,11,12,13]) 12 [Dr (Mv 45 7) 0 [2,6,7,8,9,10,11],Dr (Mv 46 11) 1 [2,6,7,8,9,10,11],Dr (Bt 47 .quo 100 45 46) 2 [6,7,8,9,10,11],Dr (Mv 48 9) 3 [5,6,7,8,9,10,11],Dr (Mv 49 10) 4 [5,6,7,8,9,10,11],Dr (Bt 50 .quo 100 48 49) 5 [6,7,8,9,10,11],⟨Ca 51 75 [.tmp 47,.tmp 50] (some (.tup [.one (.int .u64),.one (.int .u64)])),6,.all,[7,8,9,10,11],false,false⟩,Dr (Mv 44 51) 7 [8,9,10,11],Dr (Ex 52 44 0) 8 [10,11],Dr (Ex 53 44 1) 9 [11],Dr (As 14 52) 10 [11],Dr (As 15 53) 11 []])
 (.seq (.seq (.reg (some [2,3,4,12,13,14,15]) [Mv 54 12,Bc 55 .neq 100 54 .u64 0,Mv 56 55,⟨some 57,some (56,false),.op false (.old (.move (.tmp 14)))⟩,⟨some 58,some (56,false),.op false (.old (.binOp .neq 100 (.tmp 57) (.const (.int .u64 0)) 100))⟩,Ol 59 (.pick (.tmp 56) (.const (.bool true)) (.tmp 58))])
 (.cond (.tmp 59) (.seq (.reg (some [4]) [Ro 60 (.build [.int .i64 0,.int .i64 0] []),⟨none,none,.op false (.store 2 (.tmp 4) (.tmp 60))⟩,Ac 5 16])
 .ret)
 .skip))
 (.seq (.reg (some [2,3,4,13,15]) [Fa 61 0 2,L1 62 61,Bc 63 .lss 2 62 .i64 0,Fa 64 0 3,L1 65 64,Bc 66 .lss 2 65 .i64 0,Bt 67 .neq 4 63 66,Mv 68 13,Mv 69 15,Ca 70 76 [.tmp 67,.tmp 68,.tmp 69] (some (.tup [.agg [.int .i64,.int .i64],.one (.int .i64)])),Ex 71 70 0,Ex 72 70 1,⟨none,none,.op false (.store 2 (.tmp 4) (.tmp 71))⟩,As 5 72])
 .ret)))))),
 [.agg 4 2 [.int .i64,.int .i64],.tmp 5],
 [],
 []⟩
theorem r51_ok : resFun (progU ()) hint live 51 Tryz.f51 = some r51:=by kernel_rfl
def r52 : RFun :=
⟨.seq (.reg (some [0,1,2,3,4]) [Ol 10 (.assign (.const (.bool true)))])
 (.seq (.reg (some [0,1,2,3,4,10]) [Ol 11 (.assign (.const (.bool true)))])
 (.block 0 (.loop 2 (some [0,1,2,3,4,10,11]) (some [0,1,2,3,4,10,11])))),
 [],
 [(2,⟨some [0,1,2,3,4,10,11],some [0,1,2,3,4,10,11],.block 1 (.seq (.reg (some [0,1,2,3,4,10,11]) [Mv 21 2,Mv 22 1,Bt 23 .sub 3 21 22,As 12 23])
 (.seq (.seq (.reg (some [0,1,2,3,4,10,11,12]) [Mv 24 12,Bc 25 .leq 3 24 .i64 12])
 (.cond (.tmp 25) (.seq (.reg (some [0,1,2,4]) [Mv 26 0,Mv 27 1,Mv 28 2,Mv 29 4,Ca 30 77 [.tmp 26,.tmp 27,.tmp 28,.tmp 29] (some (.tup []))])
 .ret)
 .skip))
 (.seq (.seq (.reg (some [0,1,2,3,4,10,11,12]) [Mv 31 3,Bc 32 .eql 3 31 .i64 0])
 (.cond (.tmp 32) (.seq (.reg (some [0,1,2,4]) [Mv 33 0,Mv 34 1,Mv 35 2,Mv 36 4,Ca 37 78 [.tmp 33,.tmp 34,.tmp 35,.tmp 36] (some (.tup []))])
 .ret)
 .skip))
 (.seq (.seq (.reg (some [0,1,2,3,4,10,11,12]) [Mv 38 10,Ol 39 (.unOp .not 4 (.tmp 38))])
 (.cond (.tmp 39) (.seq (.reg (some [0,1,2,3,4,10,11,12]) [Mv 40 0,Mv 41 1,Mv 42 2,Mv 43 4,Ca 44 79 [.tmp 40,.tmp 41,.tmp 42,.tmp 43] (some (.tup []))])
 (.reg (some [0,1,2,3,4,10,11,12]) [Mv 45 3,Bc 46 .sub 3 45 .i64 1,As 3 46]))
 .skip))
 (.seq (.reg (some [0,1,2,3,4,10,11,12]) [Mv 48 0,Mv 49 1,Mv 50 2,Mv 51 4,Ca 52 80 [.tmp 48,.tmp 49,.tmp 50,.tmp 51] (some (.tup [.one (.int .i64),.one (.int .i64)])),Mv 47 52,Ex 53 47 0,Ex 54 47 1,As 13 53,As 14 54])
 (.seq (.seq (.reg (some [0,1,2,3,4,10,11,12,13,14]) [Mv 55 14,Bc 56 .eql 115 55 .i64 2])
 (.cond (.tmp 56) (.seq (.reg (some [0,1,2,3,4,10,11,12,13]) [Mv 57 0,Mv 58 1,Mv 59 2,Mv 60 4,Ca 61 81 [.tmp 57,.tmp 58,.tmp 59,.tmp 60] (some (.tup []))])
 (.seq (.reg (some [0,1,2,3,4,10,11,12,13]) [Mv 62 2,Bc 63 .sub 3 62 .i64 1,Mv 64 13,Mv 65 1,Bt 66 .sub 3 64 65,Bt 67 .sub 3 63 66,As 13 67])
 (.reg (some [0,1,2,3,4,10,11,12,13]) [Ac 14 1])))
 .skip))
 (.seq (.seq (.reg (some [0,1,2,3,4,10,11,12,13,14]) [Mv 68 10,Mv 69 68,⟨some 70,some (69,true),.op false (.old (.move (.tmp 11)))⟩,Ol 71 (.pick (.tmp 69) (.tmp 70) (.const (.bool false))),Mv 72 71,⟨some 73,some (72,true),.op false (.old (.move (.tmp 14)))⟩,⟨some 74,some (72,true),.op false (.old (.binOp .eql 115 (.tmp 73) (.const (.int .i64 1)) 115))⟩,Ol 75 (.pick (.tmp 72) (.tmp 74) (.const (.bool false)))])
 (.cond (.tmp 75) (.seq (.reg (some [0,1,2,3,4,10,11,12,13]) [Mv 76 0,Mv 77 1,Mv 78 2,Mv 79 4,Ca 80 82 [.tmp 76,.tmp 77,.tmp 78,.tmp 79] (some (.val (.one .bool)))])
 (.cond (.tmp 80) .ret
 .skip))
 .skip))
 (.seq (.seq (.draw (some [0,1,2,3,4,10,11,12,13]) 17 [Dr (Mv 81 1) 0 [1,2,3,4,5,6,7,8,9,10,11,12,13,14,15,16],Dr (Bc 82 .gtr 3 81 .i64 0) 1 [2,3,4,5,6,7,8,9,10,11,12,13,14,15,16],Dr (Mv 83 82) 2 [3,4,5,6,7,8,9,10,11,12,13,14,15,16],⟨⟨some 84,some (83,true),.op false (.old (.move (.tmp 4)))⟩,3,.none,[13,14,15,16],false,true⟩,⟨⟨some 85,some (83,true),.op false (.old (.move (.tmp 0)))⟩,4,.none,[7,8,13,14,15,16],false,true⟩,⟨⟨some 86,some (83,true),.op false (.old (.move (.tmp 1)))⟩,5,.none,[6,7,8,13,14,15,16],false,true⟩,⟨⟨some 87,some (83,true),.op false (.old (.binOp .sub 3 (.tmp 86) (.const (.int .i64 1)) 3))⟩,6,.none,[7,8,13,14,15,16],false,true⟩,⟨⟨some 88,some (83,true),.op false (.ixS 4 (.tmp 85) (.tmp 87))⟩,7,.none,[8,13,14,15,16],false,true⟩,⟨⟨some 89,some (83,true),.op false (.load 4 [.int .i64,.int .i64,.int .i64,.int .i64] (.tmp 88))⟩,8,.blk (.tmp 88),[13,14,15,16],false,true⟩,⟨⟨some 90,some (83,true),.op false (.old (.move (.tmp 0)))⟩,9,.none,[11,12,13,14,15,16],false,true⟩,⟨⟨some 91,some (83,true),.op false (.old (.move (.tmp 13)))⟩,10,.none,[11,12,13,14,15,16],false,true⟩,⟨⟨some 92,some (83,true),.op false (.ixS 4 (.tmp 90) (.tmp 91))⟩,11,.none,[12,13,14,15,16],false,true⟩,⟨⟨some 93,some (83,true),.op false (.load 4 [.int .i64,.int .i64,.int .i64,.int .i64] (.tmp 92))⟩,12,.blk (.tmp 92),[13,14,15,16],false,true⟩,⟨⟨some 94,some (83,true),.call (.tmp 84) [.tmp 89,.tmp 93] (some (.val (.one (.int .i64))))⟩,13,.all,[14,15,16],false,false⟩,⟨⟨some 95,some (83,true),.op false (.old (.binOp .lss 3 (.tmp 94) (.const (.int .i64 0)) 3))⟩,14,.none,[15,16],false,true⟩,⟨⟨some 96,some (83,true),.op false (.old (.unOp .not 4 (.tmp 95)))⟩,15,.none,[16],false,true⟩,Dr (Ol 97 (.pick (.tmp 83) (.tmp 96) (.const (.bool false)))) 16 []])
 (.cond (.tmp 97) (.seq (.reg (some [0,1,2,3,4,10,11,13]) [Mv 98 0,Mv 99 1,Mv 100 2,Mv 101 13,Mv 102 4,Ca 103 83 [.tmp 98,.tmp 99,.tmp 100,.tmp 101,.tmp 102] (some (.val (.one (.int .i64)))),As 15 103])
 (.seq (.reg (some [0,2,3,4,10,11,15]) [Mv 104 15,As 1 104])
 (.exit 1 (some [0,1,2,3,4,10,11]))))
 .skip))
 (.seq (.reg (some [0,1,2,3,4,12,13]) [Mv 106 0,Mv 107 1,Mv 108 2,Mv 109 13,Mv 110 4,Ca 111 84 [.tmp 106,.tmp 107,.tmp 108,.tmp 109,.tmp 110] (some (.tup [.one (.int .i64),.one .bool])),Mv 105 111,Ex 112 105 0,Ex 113 105 1,As 16 112,As 17 113])
 (.seq (.reg (some [0,1,2,3,4,12,16,17]) [Mv 114 17,As 11 114])
 (.seq (.reg (some [0,1,2,3,4,11,12,16]) [Mv 115 16,Mv 116 1,Bt 117 .sub 3 115 116,Mv 118 2,Mv 119 16,Bt 120 .sub 3 118 119,As 18 117,As 19 120])
 (.seq (.reg (some [0,1,2,3,4,11,12,16,18,19]) [Mv 121 12,Bc 122 .quo 3 121 .i64 8,As 20 122])
 (.seq (.reg (some [0,1,2,3,4,11,16,18,19,20]) [Mv 123 18,Mv 124 19,Bt 125 .lss 3 123 124])
 (.cond (.tmp 125) (.seq (.reg (some [0,1,2,3,4,11,16,18,20]) [Mv 126 18,Mv 127 20,Bt 128 .geq 3 126 127,As 10 128])
 (.seq (.reg (some [0,1,2,3,4,10,11,16]) [Mv 129 0,Mv 130 1,Mv 131 16,Mv 132 3,Mv 133 4,Ca 134 52 [.tmp 129,.tmp 130,.tmp 131,.tmp 132,.tmp 133] (some (.tup []))])
 (.reg (some [0,2,3,4,10,11,16]) [Mv 135 16,Bc 136 .add 3 135 .i64 1,As 1 136])))
 (.seq (.reg (some [0,1,2,3,4,11,16,19,20]) [Mv 137 19,Mv 138 20,Bt 139 .geq 3 137 138,As 10 139])
 (.seq (.reg (some [0,1,2,3,4,10,11,16]) [Mv 140 0,Mv 141 16,Bc 142 .add 3 141 .i64 1,Mv 143 2,Mv 144 3,Mv 145 4,Ca 146 52 [.tmp 140,.tmp 142,.tmp 143,.tmp 144,.tmp 145] (some (.tup []))])
 (.reg (some [0,1,3,4,10,11,16]) [Mv 147 16,As 2 147])))))))))))))))))⟩)],
 []⟩
theorem r52_ok : resFun (progU ()) hint live 52 Tryz.f52 = some r52:=by kernel_rfl
def r53 : RFun :=
⟨.seq (.reg (some [0]) [Ac 2 0])
 (.seq (.cond (.const (.bool false)) (.seq (.reg (some [0]) [Mv 3 0,Ro 4 (.convI .u32 (.tmp 3)),Ca 5 85 [.tmp 4] (some (.val (.one (.int .i64)))),As 2 5])
 .ret)
 .skip)
 (.seq (.reg (some [0]) [Mv 6 0,Ca 7 86 [.tmp 6] (some (.val (.one (.int .i64)))),As 2 7])
 .ret)),
 [.tmp 2],
 [],
 []⟩
theorem r53_ok : resFun (progU ()) hint live 53 Tryz.f53 = some r53:=by kernel_rfl
def r54 : RFun :=
⟨.seq (.reg (some [0]) [Ol 2 (.assign (.const (.bool false)))])
 (.seq (.reg (some [0]) [Mv 3 0,Mv 4 0,Bt 5 .neq 3 3 4,As 2 5])
 .ret),
 [.tmp 2],
 [],
 []⟩
theorem r54_ok : resFun (progU ()) hint live 54 Tryz.f54 = some r54:=by kernel_rfl
def r55 : RFun :=
⟨.seq (.reg (some [0,1]) [⟨some 2,none,.op true (.box 3 (.tmp 0))⟩,⟨some 3,none,.op true (.box 3 (.tmp 1))⟩,Ac 4 0])
 (.seq (.seq (.reg (some [2,3]) [Ro 6 (.load 3 [.int .i64,.int .i64,.int .i64] (.tmp 2)),Ca 7 41 [.tmp 6] (some (.val (.one (.int .i64)))),As 5 7])
 (.seq (.reg (some [3,5]) [Mv 8 5,Bc 9 .neq 27 8 .i64 0])
 (.cond (.tmp 9) (.seq (.reg (some [5]) [Mv 10 5,As 4 10])
 .ret)
 .skip)))
 (.seq (.reg (some [3]) [Ro 11 (.load 3 [.int .i64,.int .i64,.int .i64] (.tmp 3)),Ca 12 41 [.tmp 11] (some (.val (.one (.int .i64)))),As 4 12])
 .ret)),
 [.tmp 4],
 [],
 []⟩
theorem r55_ok : resFun (progU ()) hint live 55 Tryz.f55 = some r55:=by kernel_rfl
def r56 : RFun :=
⟨.seq (.reg (some [0,1,2]) [⟨some 6,none,.op true (.new 3 [.int .i64 0,.int .i64 0,.int .i64 0])⟩,Ac 7 0])
 (.seq (.seq (.reg (some [0,1,2,6]) [Mv 12 0,Mv 13 1,Mv 14 2,Ro 15 (.build [.int .i64 0,.int .i64 0,.int .i64 0] [(0,1,(.tmp 12)),(1,1,(.tmp 13)),(2,1,(.tmp 14))]),Ol 16 (.move (.const (.int .i64 0)))])
 (.block 0 (.loop 2 none (some [0,1,2,6,15,16]))))
 (.seq (.seq (.reg (some [0,1,2,6]) [Mv 27 2,Bc 28 .eql 2 27 .i64 0])
 (.cond (.tmp 28) (.seq (.reg (some [6]) [Ro 29 (.build [.int .i64 0,.int .i64 0,.int .i64 0] []),⟨none,none,.op false (.store 3 (.tmp 6) (.tmp 29))⟩,Ac 7 18])
 .ret)
 .skip))
 (.seq (.reg (some [0,1,2,6]) [Mv 30 0,Mv 31 1,Ca 32 68 [.tmp 30,.tmp 31] (some (.val (.one (.int .i64)))),Mv 33 2,Ca 34 68 [.tmp 32,.tmp 33] (some (.val (.one (.int .i64)))),As 10 34])
 (.seq (.seq (.reg (some [0,1,2,6,10]) [Mv 35 2,Bc 36 .lss 2 35 .i64 0])
 (.cond (.tmp 36) (.reg (some [0,1,2,6,10]) [Mv 37 10,Ol 38 (.unOp .neg 2 (.tmp 37)),As 10 38])
 .skip))
 (.seq (.draw (some [0,1,2,6,10]) 12 [Dr (Mv 39 0) 0 [2,9,11],Dr (Mv 40 10) 1 [2,9,11],Dr (Bt 41 .quo 2 39 40) 2 [9,11],Dr (Mv 42 1) 3 [5,9,11],Dr (Mv 43 10) 4 [5,9,11],Dr (Bt 44 .quo 2 42 43) 5 [9,11],Dr (Mv 45 2) 6 [8,9,11],Dr (Mv 46 10) 7 [8,9,11],Dr (Bt 47 .quo 2 45 46) 8 [9,11],Dr (Ro 48 (.build [.int .i64 0,.int .i64 0,.int .i64 0] [(0,1,(.tmp 41)),(1,1,(.tmp 44)),(2,1,(.tmp 47))])) 9 [11],⟨⟨some 11,none,.op true (.new 3 [.int .i64 0,.int .i64 0,.int .i64 0])⟩,10,.new true,[11],false,true⟩,⟨⟨none,none,.op false (.store 3 (.tmp 11) (.tmp 48))⟩,11,.blk (.tmp 11),[],true,true⟩])
 (.seq (.seq (.reg (some [6,11]) [Fa 49 0 11,L1 50 49,Ca 51 67 [.tmp 50] (some (.val (.one .bool))),Ol 52 (.unOp .not 4 (.tmp 51)),Mv 53 52,⟨some 54,some (53,false),.op false (.fieldAddr 1 (.tmp 11))⟩,⟨some 55,some (53,false),.op false (.load1 (.int .i64) (.tmp 54))⟩,⟨some 56,some (53,false),.call (.func 67) [.tmp 55] (some (.val (.one .bool)))⟩,⟨some 57,some (53,false),.op false (.old (.unOp .not 4 (.tmp 56)))⟩,Ol 58 (.pick (.tmp 53) (.const (.bool true)) (.tmp 57)),Mv 59 58,⟨some 60,some (59,false),.op false (.fieldAddr 2 (.tmp 11))⟩,⟨some 61,some (59,false),.op false (.load1 (.int .i64) (.tmp 60))⟩,⟨some 62,some (59,false),.call (.func 67) [.tmp 61] (some (.val (.one .bool)))⟩,⟨some 63,some (59,false),.op false (.old (.unOp .not 4 (.tmp 62)))⟩,Ol 64 (.pick (.tmp 59) (.const (.bool true)) (.tmp 63))])
 (.cond (.tmp 64) (.seq (.reg (some [6]) [Ro 65 (.build [.int .i64 0,.int .i64 0,.int .i64 0] []),⟨none,none,.op false (.store 3 (.tmp 6) (.tmp 65))⟩,Ac 7 16])
 .ret)
 .skip))
 (.seq (.reg (some [6,11]) [Ro 66 (.load 3 [.int .i64,.int .i64,.int .i64] (.tmp 11)),⟨none,none,.op false (.store 3 (.tmp 6) (.tmp 66))⟩,Ac 7 0])
 .ret))))))),
 [.agg 6 3 [.int .i64,.int .i64,.int .i64],.tmp 7],
 [(2,⟨none,some [0,1,2,6,15,16],.seq (.reg (some [0,1,2,6,15,16]) [Bc 17 .lss 3 16 .i64 3])
 (.seq (.cond (.tmp 17) .skip
 (.exit 0 (some [0,1,2,6])))
 (.seq (.block 1 (.seq (.reg (some [0,1,2,6,15,16]) [Ol 18 (.index 125 (.tmp 15) (.tmp 16)),As 9 18])
 (.seq (.reg (some [0,1,2,6,9,15,16]) [Mv 19 9,Ol 20 (.binOp .lss 2 (.tmp 19) (.const (.int .i64 (-2000000000000000000))) 2),Mv 21 20,⟨some 22,some (21,false),.op false (.old (.move (.tmp 9)))⟩,⟨some 23,some (21,false),.op false (.old (.binOp .gtr 2 (.tmp 22) (.const (.int .i64 2000000000000000000)) 2))⟩,Ol 24 (.pick (.tmp 21) (.const (.bool true)) (.tmp 23))])
 (.cond (.tmp 24) (.seq (.reg (some [6]) [Ro 25 (.build [.int .i64 0,.int .i64 0,.int .i64 0] []),⟨none,none,.op false (.store 3 (.tmp 6) (.tmp 25))⟩,Ac 7 2])
 .ret)
 .skip))))
 (.reg (some [0,1,2,6,15,16]) [Bc 26 .add 3 16 .i64 1,Mv 16 26])))⟩)],
 []⟩
theorem r56_ok : resFun (progU ()) hint live 56 Tryz.f56 = some r56:=by kernel_rfl
def r57 : RFun :=
⟨.seq (.reg (some [0]) [⟨some 1,none,.op true (.box 2 (.tmp 0))⟩,Ac 2 0])
 (.seq (.seq (.draw (some [1]) 28 [Dr (Fa 3 1 1) 0 [1,2,3,4,5,6,7,8,9,10,11,12,13,14,15,16,17,18,19,20,21,22,23,24,25,26,27],Db (L1 4 3) 1 3 [2,3,4,5,6,7,8,9,10,11,12,13,14,15,16,17,18,19,20,21,22,23,24,25,26,27],Dr (Bc 5 .lss 2 4 .i64 1) 2 [3,4,5,6,7,8,9,10,11,12,13,14,15,16,17,18,19,20,21,22,23,24,25,26,27],Dr (Mv 6 5) 3 [4,5,6,7,8,9,10,11,12,13,14,15,16,17,18,19,20,21,22,23,24,25,26,27],⟨⟨some 7,some (6,false),.op false (.fieldAddr 1 (.tmp 1))⟩,4,.none,[5,6,7,8,9,10,11,12,13,14,15,16,17,18,19,20,21,22,23,24,25,26,27],false,true⟩,⟨⟨some 8,some (6,false),.op false (.load1 (.int .i64) (.tmp 7))⟩,5,.blk (.tmp 7),[6,7,8,9,10,11,12,13,14,15,16,17,18,19,20,21,22,23,24,25,26,27],false,true⟩,⟨⟨some 9,some (6,false),.op false (.old (.binOp .gtr 2 (.tmp 8) (.const (.int .i64 1000000000000000000)) 2))⟩,6,.none,[7,8,9,10,11,12,13,14,15,16,17,18,19,20,21,22,23,24,25,26,27],false,true⟩,Dr (Ol 10 (.pick (.tmp 6) (.const (.bool true)) (.tmp 9))) 7 [8,9,10,11,12,13,14,15,16,17,18,19,20,21,22,23,24,25,26,27],Dr (Mv 11 10) 8 [9,10,11,12,13,14,15,16,17,18,19,20,21,22,23,24,25,26,27],⟨⟨some 12,some (11,false),.op false (.fieldAddr 0 (.tmp 1))⟩,9,.none,[10,11,12,13,14,15,16,17,18,19,20,21,22,23,24,25,26,27],false,true⟩,⟨⟨some 13,some (11,false),.op false (.load1 (.int .i64) (.tmp 12))⟩,10,.blk (.tmp 12),[11,12,13,14,15,16,17,18,19,20,21,22,23,24,25,26,27],false,true⟩,⟨⟨some 14,some (11,false),.op false (.old (.binOp .lss 2 (.tmp 13) (.const (.int .i64 (-1000000000000000000))) 2))⟩,11,.none,[12,13,14,15,16,17,18,19,20,21,22,23,24,25,26,27],false,true⟩,Dr (Ol 15 (.pick (.tmp 11) (.const (.bool true)) (.tmp 14))) 12 [13,14,15,16,17,18,19,20,21,22,23,24,25,26,27],Dr (Mv 16 15) 13 [14,15,16,17,18,19,20,21,22,23,24,25,26,27],⟨⟨some 17,some (16,false),.op false (.fieldAddr 0 (.tmp 1))⟩,14,.none,[15,16,17,18,19,20,21,22,23,24,25,26,27],false,true⟩,⟨⟨some 18,some (16,false),.op false (.load1 (.int .i64) (.tmp 17))⟩,15,.blk (.tmp 17),[16,17,18,19,20,21,22,23,24,25,26,27],false,true⟩,⟨⟨some 19,some (16,false),.op false (.old (.binOp .gtr 2 (.tmp 18) (.const (.int .i64 1000000000000000000)) 2))⟩,16,.none,[17,18,19,20,21,22,23,24,25,26,27],false,true⟩,Dr (Ol 20 (.pick (.tmp 16) (.const (.bool true)) (.tmp 19))) 17 [18,19,20,21,22,23,24,25,26,27],Dr (Mv 21 20) 18 [19,20,21,22,23,24,25,26,27],⟨⟨some 22,some (21,false),.op false (.fieldAddr 0 (.tmp 1))⟩,19,.none,[20,21,25,26,27],false,true⟩,⟨⟨some 23,some (21,false),.op false (.load1 (.int .i64) (.tmp 22))⟩,20,.blk (.tmp 22),[21,25,26,27],false,true⟩,⟨⟨some 25,some (21,false),.op false (.fieldAddr 1 (.tmp 1))⟩,22,.none,[23,24,25,26,27],false,true⟩,⟨⟨some 26,some (21,false),.op false (.load1 (.int .i64) (.tmp 25))⟩,23,.blk (.tmp 25),[24,25,26,27],false,true⟩,⟨⟨some 27,some (21,false),.op false (.convI .u64 (.tmp 26))⟩,24,.cvt (.tmp 26),[25,26,27],false,true⟩,⟨⟨some 24,some (21,false),.call (.func 62) [.tmp 23] (some (.val (.one (.int .u64))))⟩,21,.all,[25,26,27],false,false⟩,⟨⟨some 28,some (21,false),.call (.func 61) [.tmp 24,.tmp 27] (some (.val (.one (.int .u64))))⟩,25,.all,[26,27],false,false⟩,⟨⟨some 29,some (21,false),.op false (.old (.binOp .neq 100 (.tmp 28) (.const (.int .u64 1)) 100))⟩,26,.none,[27],false,true⟩,Dr (Ol 30 (.pick (.tmp 21) (.const (.bool true)) (.tmp 29))) 27 []])
 (.cond (.tmp 30) (.seq (.reg (some []) [Ac 2 8])
 .ret)
 .skip))
 (.seq (.reg (some []) [Ac 2 0])
 .ret)),
 [.tmp 2],
 [],
 []⟩
theorem r57_ok : resFun (progU ()) hint live 57 Tryz.f57 = some r57:=by kernel_rfl
def r58 : RFun :=
⟨.seq (.reg (some [0,1]) [⟨some 2,none,.op true (.box 2 (.tmp 0))⟩,⟨some 3,none,.op true (.box 2 (.tmp 1))⟩,Ol 4 (.assign (.const (.bool false)))])
 (.seq (.seq (.reg (some [2,3]) [Fa 7 0 2,L1 8 7,Bc 9 .lss 2 8 .i64 0,Fa 10 0 3,L1 11 10,Bc 12 .lss 2 11 .i64 0,Bt 13 .neq 4 9 12])
 (.cond (.tmp 13) (.seq (.reg (some [2]) [Fa 14 0 2,L1 15 14,Bc 16 .lss 2 15 .i64 0,As 4 16])
 .ret)
 .skip))
 (.seq (.draw (some [2,3]) 18 [Dr (Fa 17 0 2) 0 [1,2,6,9,13,16,17],Db (L1 18 17) 1 17 [2,6,9,13,16,17],Dr (Fa 20 1 3) 3 [4,5,6,9,13,16,17],Db (L1 21 20) 4 20 [5,6,9,13,16,17],⟨Ro 22 (.convI .u64 (.tmp 21)),5,.cvt (.tmp 21),[6,9,13,16,17],false,true⟩,Dr (Fa 24 0 3) 7 [8,9,13,16,17],Db (L1 25 24) 8 24 [9,13,16,17],Dr (Fa 27 1 2) 10 [11,12,13,16,17],Db (L1 28 27) 11 27 [12,13,16,17],⟨Ro 29 (.convI .u64 (.tmp 28)),12,.cvt (.tmp 28),[13,16,17],false,true⟩,⟨⟨some 5,none,.op true (.new 4 [.int .u64 0,.int .u64 0,.int .u64 0,.int .u64 0])⟩,14,.new true,[16,17],false,true⟩,⟨⟨some 6,none,.op true (.new 4 [.int .u64 0,.int .u64 0,.int .u64 0,.int .u64 0])⟩,15,.new true,[16,17],false,true⟩,⟨Ca 19 62 [.tmp 18] (some (.val (.one (.int .u64)))),2,.all,[6,9,13,16,17],false,false⟩,⟨Ca 23 64 [.tmp 19,.tmp 22] (some (.val (.agg [.int .u64,.int .u64,.int .u64,.int .u64]))),6,.all,[9,13,16,17],false,false⟩,⟨Ca 26 62 [.tmp 25] (some (.val (.one (.int .u64)))),9,.all,[13,16,17],false,false⟩,⟨Ca 30 64 [.tmp 26,.tmp 29] (some (.val (.agg [.int .u64,.int .u64,.int .u64,.int .u64]))),13,.all,[16,17],false,false⟩,⟨⟨none,none,.op false (.store 4 (.tmp 5) (.tmp 23))⟩,16,.blk (.tmp 5),[17],true,true⟩,⟨⟨none,none,.op false (.store 4 (.tmp 6) (.tmp 30))⟩,17,.blk (.tmp 6),[],true,true⟩])
 (.seq (.seq (.reg (some [2,5,6]) [Fa 31 0 2,L1 32 31,Bc 33 .lss 2 32 .i64 0])
 (.cond (.tmp 33) (.seq (.reg (some [5,6]) [Ro 34 (.load 4 [.int .u64,.int .u64,.int .u64,.int .u64] (.tmp 6)),Ro 35 (.load 4 [.int .u64,.int .u64,.int .u64,.int .u64] (.tmp 5)),Ca 36 87 [.tmp 34,.tmp 35] (some (.val (.one .bool))),As 4 36])
 .ret)
 .skip))
 (.seq (.reg (some [5,6]) [Ro 37 (.load 4 [.int .u64,.int .u64,.int .u64,.int .u64] (.tmp 5)),Ro 38 (.load 4 [.int .u64,.int .u64,.int .u64,.int .u64] (.tmp 6)),Ca 39 87 [.tmp 37,.tmp 38] (some (.val (.one .bool))),As 4 39])
 .ret)))),
 [.tmp 4],
 [],
 []⟩
theorem r58_ok : resFun (progU ()) hint live 58 Tryz.f58 = some r58:=by kernel_rfl
def r59 : RFun :=
⟨.seq (.reg (some [0]) [⟨some 2,none,.op true (.new 2 [.int .i64 0,.int .i64 0])⟩])
 (.seq (.reg (some [0,2]) [Mv 3 0,Ro 4 (.build [.int .i64 0,.int .i64 0] [(0,1,(.tmp 3)),(1,1,(.const (.int .i64 1)))]),⟨none,none,.op false (.store 2 (.tmp 2) (.tmp 4))⟩])
 .ret),
 [.agg 2 2 [.int .i64,.int .i64]],
 [],
 []⟩
theorem r59_ok : resFun (progU ()) hint live 59 Tryz.f59 = some r59:=by kernel_rfl
def r60 : RFun :=
⟨.seq (.reg (some [0,1]) [⟨some 2,none,.op true (.box 2 (.tmp 0))⟩,⟨some 3,none,.op true (.box 2 (.tmp 1))⟩,Ac 4 0])
 (.seq (.seq (.reg (some [2,3]) [Ld 5 2,Ca 6 57 [.tmp 5] (some (.val (.one (.int .i64)))),Bc 7 .neq 3 6 .i64 0])
 (.cond (.tmp 7) (.seq (.reg (some [2]) [Ld 8 2,Ca 9 57 [.tmp 8] (some (.val (.one (.int .i64)))),As 4 9])
 .ret)
 .skip))
 (.seq (.reg (some [3]) [Ld 10 3,Ca 11 57 [.tmp 10] (some (.val (.one (.int .i64)))),As 4 11])
 .ret)),
 [.tmp 4],
 [],
 []⟩
theorem r60_ok : resFun (progU ()) hint live 60 Tryz.f60 = some r60:=by kernel_rfl
def r61 : RFun :=
⟨.seq (.reg (some [0,1]) [Ol 4 (.assign (.const (.int .u64 0)))])
 (.seq (.block 0 (.loop 1 (some [0,1]) (some [0,1])))
 (.seq (.reg (some [0]) [Mv 11 0,As 4 11])
 .ret)),
 [.tmp 4],
 [(1,⟨some [0,1],some [0,1],.seq (.seq (.reg (some [0,1]) [Mv 5 1,Bc 6 .neq 100 5 .u64 0])
 (.cond (.tmp 6) .skip
 (.exit 0 (some [0]))))
 (.block 1 (.draw (some [0,1]) 6 [Dr (Mv 7 1) 0 [4,5],Dr (Mv 8 0) 1 [3,4,5],Dr (Mv 9 1) 2 [3,5],Dr (Bt 10 .rem 100 8 9) 3 [5],Dr (As 0 7) 4 [5],Dr (As 1 10) 5 []]))⟩)],
 []⟩
theorem r61_ok : resFun (progU ()) hint live 61 Tryz.f61 = some r61:=by kernel_rfl
def r62 : RFun :=
⟨.seq (.reg (some [0]) [Ol 2 (.assign (.const (.int .u64 0)))])
 (.seq (.seq (.reg (some [0]) [Mv 3 0,Bc 4 .geq 2 3 .i64 0])
 (.cond (.tmp 4) (.seq (.reg (some [0]) [Mv 5 0,Ro 6 (.convI .u64 (.tmp 5)),As 2 6])
 .ret)
 .skip))
 (.seq (.reg (some [0]) [Mv 7 0,Bc 8 .add 2 7 .i64 1,Ol 9 (.unOp .neg 2 (.tmp 8)),Ro 10 (.convI .u64 (.tmp 9)),Bc 11 .add 100 10 .u64 1,As 2 11])
 .ret)),
 [.tmp 2],
 [],
 []⟩
theorem r62_ok : resFun (progU ()) hint live 62 Tryz.f62 = some r62:=by kernel_rfl
def r63 : RFun :=
⟨.seq (.reg (some [0,1,2]) [⟨some 4,none,.op true (.box 4 (.tmp 1))⟩,⟨some 5,none,.op true (.box 4 (.tmp 2))⟩,⟨some 6,none,.op true (.new 2 [.int .i64 0,.int .i64 0])⟩,Ac 7 0])
 (.seq (.reg (some [0,4,5,6]) [Ro 13 (.load 4 [.int .u64,.int .u64,.int .u64,.int .u64] (.tmp 4)),Ca 14 88 [.tmp 13] (some (.tup [.one (.int .i64),.one .bool])),Mv 12 14,Ex 15 12 0,Ex 16 12 1,As 8 15,As 9 16])
 (.seq (.reg (some [0,5,6,8,9]) [Ro 18 (.load 4 [.int .u64,.int .u64,.int .u64,.int .u64] (.tmp 5)),Ca 19 88 [.tmp 18] (some (.tup [.one (.int .i64),.one .bool])),Mv 17 19,Ex 20 17 0,Ex 21 17 1,As 10 20,As 11 21])
 (.seq (.seq (.reg (some [0,6,8,9,10,11]) [Mv 22 9,Ol 23 (.unOp .not 4 (.tmp 22)),Mv 24 23,⟨some 25,some (24,false),.op false (.old (.move (.tmp 11)))⟩,⟨some 26,some (24,false),.op false (.old (.unOp .not 4 (.tmp 25)))⟩,Ol 27 (.pick (.tmp 24) (.const (.bool true)) (.tmp 26))])
 (.cond (.tmp 27) (.seq (.reg (some [6]) [Ro 28 (.build [.int .i64 0,.int .i64 0] []),⟨none,none,.op false (.store 2 (.tmp 6) (.tmp 28))⟩,Ac 7 16])
 .ret)
 .skip))
 (.seq (.seq (.reg (some [0,6,8,10]) [Mv 29 0])
 (.cond (.tmp 29) (.reg (some [6,8,10]) [Mv 30 8,Ol 31 (.unOp .neg 2 (.tmp 30)),As 8 31])
 .skip))
 (.seq (.reg (some [6,8,10]) [Mv 32 8,Mv 33 10,Ro 34 (.build [.int .i64 0,.int .i64 0] [(0,1,(.tmp 32)),(1,1,(.tmp 33))]),⟨none,none,.op false (.store 2 (.tmp 6) (.tmp 34))⟩,Ac 7 0])
 .ret))))),
 [.agg 6 2 [.int .i64,.int .i64],.tmp 7],
 [],
 []⟩
theorem r63_ok : resFun (progU ()) hint live 63 Tryz.f63 = some r63:=by kernel_rfl
def r64 : RFun :=
⟨.seq (.reg (some [0,1]) [⟨some 4,none,.op true (.new 4 [.int .u64 0,.int .u64 0,.int .u64 0,.int .u64 0])⟩])
 (.seq (.reg (some [0,1,4]) [Mv 11 0,Ca 12 89 [.tmp 11] (some (.val (.agg [.int .u64,.int .u64,.int .u64,.int .u64]))),Mv 13 1,Ca 14 89 [.tmp 13] (some (.val (.agg [.int .u64,.int .u64,.int .u64,.int .u64]))),Ro 5 (.new 4 [.int .u64 0,.int .u64 0,.int .u64 0,.int .u64 0]),Ro 6 (.new 4 [.int .u64 0,.int .u64 0,.int .u64 0,.int .u64 0]),⟨none,none,.op false (.store 4 (.tmp 5) (.tmp 12))⟩,⟨none,none,.op false (.store 4 (.tmp 6) (.tmp 14))⟩])
 (.seq (.reg (some [4,5,6]) [Ro 15 (.build [.int .u64 0,.int .u64 0,.int .u64 0,.int .u64 0] []),Ro 7 (.new 4 [.int .u64 0,.int .u64 0,.int .u64 0,.int .u64 0]),⟨none,none,.op false (.store 4 (.tmp 7) (.tmp 15))⟩])
 (.seq (.seq (.reg (some [4,5,6,7]) [Ac 8 0])
 (.block 0 (.loop 4 (some [4,5,6,7,8]) (some [4,5,6,7,8]))))
 (.seq (.reg (some [4,7]) [Ro 60 (.load 4 [.int .u64,.int .u64,.int .u64,.int .u64] (.tmp 7)),⟨none,none,.op false (.store 4 (.tmp 4) (.tmp 60))⟩])
 .ret)))),
 [.agg 4 4 [.int .u64,.int .u64,.int .u64,.int .u64]],
 [(4,⟨some [4,5,6,7,8],some [4,5,6,7,8],.seq (.seq (.reg (some [4,5,6,7,8]) [Mv 16 8,Bc 17 .lss 3 16 .i64 2])
 (.cond (.tmp 17) .skip
 (.exit 0 (some [4,7]))))
 (.seq (.block 1 (.seq (.reg (some [4,5,6,7,8]) [Ol 9 (.assign (.const (.int .u64 0)))])
 (.seq (.seq (.reg (some [4,5,6,7,8,9]) [Ac 10 0])
 (.block 2 (.loop 8 (some [4,5,6,7,8,9,10]) (some [4,5,6,7,8,9,10]))))
 (.reg (some [4,5,6,7,8,9]) [Mv 51 8,Bc 52 .add 3 51 .i64 2,Fa 53 0 7,Ro 54 (.ixA 4 1 (.tmp 53) (.tmp 52)),Ro 55 (.load1 (.int .u64) (.tmp 54)),Mv 56 9,Bt 57 .add 100 55 56,Fa 58 0 7,Ro 59 (.ixA 4 1 (.tmp 58) (.tmp 52)),⟨none,none,.op false (.store 1 (.tmp 59) (.tmp 57))⟩]))))
 (.reg (some [4,5,6,7,8]) [Mv 18 8,Bc 19 .add 3 18 .i64 1,As 8 19]))⟩),(8,⟨some [4,5,6,7,8,9,10],some [4,5,6,7,8,9,10],.seq (.seq (.reg (some [4,5,6,7,8,9,10]) [Mv 20 10,Bc 21 .lss 3 20 .i64 2])
 (.cond (.tmp 21) .skip
 (.exit 2 (some [4,5,6,7,8,9]))))
 (.seq (.block 3 (.seq (.draw (some [4,5,6,7,8,9,10]) 19 [Dr (Mv 24 9) 0 [17,18],Dr (Mv 25 8) 1 [3,5,6,16,17,18],Dr (Mv 26 10) 2 [3,5,6,16,17,18],Dr (Bt 27 .add 3 25 26) 3 [5,6,16,17,18],Dr (Fa 28 0 7) 4 [5,6,16,17,18],Dr (Ro 29 (.ixA 4 1 (.tmp 28) (.tmp 27))) 5 [6,16,17,18],Db (Ro 30 (.load1 (.int .u64) (.tmp 29))) 6 29 [16,17,18],Dr (Mv 31 8) 7 [9,10,15,16,17,18],Dr (Fa 32 0 5) 8 [9,10,15,16,17,18],Dr (Ro 33 (.ixA 4 1 (.tmp 32) (.tmp 31))) 9 [10,15,16,17,18],Db (Ro 34 (.load1 (.int .u64) (.tmp 33))) 10 33 [15,16,17,18],Dr (Mv 35 10) 11 [13,14,15,16,17,18],Dr (Fa 36 0 6) 12 [13,14,15,16,17,18],Dr (Ro 37 (.ixA 4 1 (.tmp 36) (.tmp 35))) 13 [14,15,16,17,18],Db (Ro 38 (.load1 (.int .u64) (.tmp 37))) 14 37 [15,16,17,18],Dr (Bt 39 .mul 100 34 38) 15 [16,17,18],Dr (Bt 40 .add 100 30 39) 16 [17,18],Dr (Bt 41 .add 100 24 40) 17 [18],Dr (As 9 41) 18 []])
 (.seq (.reg (some [4,5,6,7,8,9,10]) [Mv 42 8,Mv 43 10,Bt 44 .add 3 42 43,Mv 45 9,Bc 46 .and 100 45 .u64 4294967295,Fa 47 0 7,Ro 48 (.ixA 4 1 (.tmp 47) (.tmp 44)),⟨none,none,.op false (.store 1 (.tmp 48) (.tmp 46))⟩])
 (.reg (some [4,5,6,7,8,9,10]) [Mv 49 9,Ol 50 (.binOp .shr 100 (.tmp 49) (.const (.int .u64 32)) 91),As 9 50]))))
 (.reg (some [4,5,6,7,8,9,10]) [Mv 22 10,Bc 23 .add 3 22 .i64 1,As 10 23]))⟩)],
 []⟩
theorem r64_ok : resFun (progU ()) hint live 64 Tryz.f64 = some r64:=by kernel_rfl
def r65 : RFun :=
⟨.seq (.reg (some [0,1]) [⟨some 2,none,.op true (.box 2 (.tmp 0))⟩,⟨some 3,none,.op true (.box 2 (.tmp 1))⟩,⟨some 4,none,.op true (.new 2 [.int .i64 0,.int .i64 0])⟩,Ac 5 0])
 (.seq (.seq (.reg (some [2,3,4]) [Ld 6 2,Ld 7 3,Ca 8 60 [.tmp 6,.tmp 7] (some (.val (.one (.int .i64)))),Bc 9 .neq 3 8 .i64 0])
 (.cond (.tmp 9) (.seq (.reg (some [2,3,4]) [Ro 10 (.build [.int .i64 0,.int .i64 0] []),Ld 11 2,Ld 12 3,Ca 13 60 [.tmp 11,.tmp 12] (some (.val (.one (.int .i64)))),⟨none,none,.op false (.store 2 (.tmp 4) (.tmp 10))⟩,As 5 13])
 .ret)
 .skip))
 (.seq (.draw (some [2,3,4]) 8 [Db (Ld 14 2) 0 2 [3,4,5,6,7],Db (Ld 15 3) 1 3 [2,3,4,5,6,7],⟨Ca 16 91 [.tmp 15] (some (.val (.agg [.int .i64,.int .i64]))),2,.all,[3,4,5,6,7],false,false⟩,⟨Ca 17 90 [.tmp 14,.tmp 16] (some (.tup [.agg [.int .i64,.int .i64],.one (.int .i64)])),3,.all,[4,5,6,7],false,false⟩,Dr (Ex 18 17 0) 4 [6,7],Dr (Ex 19 17 1) 5 [6,7],⟨⟨none,none,.op false (.store 2 (.tmp 4) (.tmp 18))⟩,6,.blk (.tmp 4),[7],true,true⟩,Dr (As 5 19) 7 []])
 .ret)),
 [.agg 4 2 [.int .i64,.int .i64],.tmp 5],
 [],
 []⟩
theorem r65_ok : resFun (progU ()) hint live 65 Tryz.f65 = some r65:=by kernel_rfl
def r66 : RFun :=
⟨.seq (.reg (some [0,1]) [⟨some 4,none,.op true (.new 2 [.int .i64 0,.int .i64 0])⟩,Ac 5 0])
 (.seq (.seq (.reg (some [0,1,4]) [Mv 7 1,Bc 8 .eql 2 7 .i64 0])
 (.cond (.tmp 8) (.seq (.reg (some [4]) [Ro 9 (.build [.int .i64 0,.int .i64 0] []),⟨none,none,.op false (.store 2 (.tmp 4) (.tmp 9))⟩,Ac 5 18])
 .ret)
 .skip))
 (.seq (.reg (some [0,1,4]) [Mv 10 0,Ca 11 62 [.tmp 10] (some (.val (.one (.int .u64)))),Mv 12 1,Ca 13 62 [.tmp 12] (some (.val (.one (.int .u64)))),Ca 14 61 [.tmp 11,.tmp 13] (some (.val (.one (.int .u64)))),As 6 14])
 (.seq (.reg (some [0,1,4,6]) [Mv 15 0,Bc 16 .lss 2 15 .i64 0,Mv 17 1,Bc 18 .lss 2 17 .i64 0,Bt 19 .neq 4 16 18,Mv 20 0,Ca 21 62 [.tmp 20] (some (.val (.one (.int .u64)))),Mv 22 6,Bt 23 .quo 100 21 22,Ca 24 89 [.tmp 23] (some (.val (.agg [.int .u64,.int .u64,.int .u64,.int .u64]))),Mv 25 1,Ca 26 62 [.tmp 25] (some (.val (.one (.int .u64)))),Mv 27 6,Bt 28 .quo 100 26 27,Ca 29 89 [.tmp 28] (some (.val (.agg [.int .u64,.int .u64,.int .u64,.int .u64]))),Ca 30 63 [.tmp 19,.tmp 24,.tmp 29] (some (.tup [.agg [.int .i64,.int .i64],.one (.int .i64)])),Ex 31 30 0,Ex 32 30 1,⟨none,none,.op false (.store 2 (.tmp 4) (.tmp 31))⟩,As 5 32])
 .ret))),
 [.agg 4 2 [.int .i64,.int .i64],.tmp 5],
 [],
 []⟩
theorem r66_ok : resFun (progU ()) hint live 66 Tryz.f66 = some r66:=by kernel_rfl
def r67 : RFun :=
⟨.seq (.reg (some [0]) [Ol 2 (.assign (.const (.bool false)))])
 (.seq (.reg (some [0]) [Mv 3 0,Ol 4 (.binOp .geq 2 (.tmp 3) (.const (.int .i64 (-1000000000))) 2),Mv 5 4,⟨some 6,some (5,true),.op false (.old (.move (.tmp 0)))⟩,⟨some 7,some (5,true),.op false (.old (.binOp .leq 2 (.tmp 6) (.const (.int .i64 1000000000)) 2))⟩,Ol 8 (.pick (.tmp 5) (.tmp 7) (.const (.bool false))),As 2 8])
 .ret),
 [.tmp 2],
 [],
 []⟩
theorem r67_ok : resFun (progU ()) hint live 67 Tryz.f67 = some r67:=by kernel_rfl
def r68 : RFun :=
⟨.seq (.reg (some [0,1]) [Ac 4 0])
 (.seq (.block 0 (.loop 1 (some [0,1]) (some [0,1])))
 (.seq (.reg (some [0]) [Mv 11 0,Mv 12 0,Ol 13 (.unOp .neg 2 (.tmp 12)),⟨some 14,none,.op false (.old (.call ⟨.builtin .max,#[.tmp 11,.tmp 13],#[2,2]⟩))⟩,As 4 14])
 .ret)),
 [.tmp 4],
 [(1,⟨some [0,1],some [0,1],.seq (.seq (.reg (some [0,1]) [Mv 5 1,Bc 6 .neq 2 5 .i64 0])
 (.cond (.tmp 6) .skip
 (.exit 0 (some [0]))))
 (.block 1 (.draw (some [0,1]) 6 [Dr (Mv 7 1) 0 [4,5],Dr (Mv 8 0) 1 [3,4,5],Dr (Mv 9 1) 2 [3,5],Dr (Bt 10 .rem 2 8 9) 3 [5],Dr (As 0 7) 4 [5],Dr (As 1 10) 5 []]))⟩)],
 []⟩
theorem r68_ok : resFun (progU ()) hint live 68 Tryz.f68 = some r68:=by kernel_rfl
def r69 : RFun :=
⟨.seq (.reg (some [0,1]) [Ac 4 0])
 (.seq (.reg (some [0,1]) [Mv 5 0,Mv 6 0,Ol 7 (.unOp .neg 2 (.tmp 6)),⟨some 8,none,.op false (.old (.call ⟨.builtin .max,#[.tmp 5,.tmp 7],#[2,2]⟩))⟩,Mv 9 1,Mv 10 1,Ol 11 (.unOp .neg 2 (.tmp 10)),⟨some 12,none,.op false (.old (.call ⟨.builtin .max,#[.tmp 9,.tmp 11],#[2,2]⟩))⟩,As 0 8,As 1 12])
 (.seq (.block 0 (.loop 2 (some [0,1]) (some [0,1])))
 (.seq (.reg (some [0]) [Mv 19 0,As 4 19])
 .ret))),
 [.tmp 4],
 [(2,⟨some [0,1],some [0,1],.seq (.seq (.reg (some [0,1]) [Mv 13 1,Bc 14 .neq 2 13 .i64 0])
 (.cond (.tmp 14) .skip
 (.exit 0 (some [0]))))
 (.block 1 (.draw (some [0,1]) 6 [Dr (Mv 15 1) 0 [4,5],Dr (Mv 16 0) 1 [3,4,5],Dr (Mv 17 1) 2 [3,5],Dr (Bt 18 .rem 2 16 17) 3 [5],Dr (As 0 15) 4 [5],Dr (As 1 18) 5 []]))⟩)],
 []⟩
theorem r69_ok : resFun (progU ()) hint live 69 Tryz.f69 = some r69:=by kernel_rfl
def r70 : RFun :=
⟨.seq (.reg (some [0,1]) [Ol 4 (.assign (.const (.int .u64 0)))])
 (.seq (.block 0 (.loop 1 (some [0,1]) (some [0,1])))
 (.seq (.reg (some [0]) [Mv 11 0,As 4 11])
 .ret)),
 [.tmp 4],
 [(1,⟨some [0,1],some [0,1],.seq (.seq (.reg (some [0,1]) [Mv 5 1,Bc 6 .neq 100 5 .u64 0])
 (.cond (.tmp 6) .skip
 (.exit 0 (some [0]))))
 (.block 1 (.draw (some [0,1]) 6 [Dr (Mv 7 1) 0 [4,5],Dr (Mv 8 0) 1 [3,4,5],Dr (Mv 9 1) 2 [3,5],Dr (Bt 10 .rem 100 8 9) 3 [5],Dr (As 0 7) 4 [5],Dr (As 1 10) 5 []]))⟩)],
 []⟩
theorem r70_ok : resFun (progU ()) hint live 70 Tryz.f70 = some r70:=by kernel_rfl
def r71 : RFun :=
⟨.seq (.reg (some [0]) [Ol 2 (.assign (.const (.int .u64 0)))])
 (.seq (.seq (.reg (some [0]) [Mv 3 0,Bc 4 .lss 2 3 .i64 0])
 (.cond (.tmp 4) (.seq (.reg (some [0]) [Mv 5 0,Ro 6 (.convI .u64 (.tmp 5)),Ol 7 (.unOp .neg 100 (.tmp 6)),As 2 7])
 .ret)
 .skip))
 (.seq (.reg (some [0]) [Mv 8 0,Ro 9 (.convI .u64 (.tmp 8)),As 2 9])
 .ret)),
 [.tmp 2],
 [],
 []⟩
theorem r71_ok : resFun (progU ()) hint live 71 Tryz.f71 = some r71:=by kernel_rfl
def r72 : RFun :=
⟨.seq (.reg (some [0,1]) [⟨some 2,none,.op true (.box 2 (.tmp 0))⟩,⟨some 3,none,.op true (.box 2 (.tmp 1))⟩,Ac 4 0])
 (.seq (.block 0 (.seq (.reg (some [2,3]) [Fa 7 0 2,L1 8 7,Bc 9 .lss 2 8 .i64 0,Mv 10 9,⟨some 11,some (10,true),.op false (.fieldAddr 0 (.tmp 3))⟩,⟨some 12,some (10,true),.op false (.load1 (.int .i64) (.tmp 11))⟩,⟨some 13,some (10,true),.op false (.old (.binOp .geq 2 (.tmp 12) (.const (.int .i64 0)) 2))⟩,Ol 14 (.pick (.tmp 10) (.tmp 13) (.const (.bool false))),As 6 14])
 (.cond (.tmp 6) (.seq (.reg (some []) [Ol 4 (.assign (.const (.int .i64 (-1))))])
 .ret)
 (.seq (.reg (some [2,3]) [Fa 16 0 2,L1 17 16,Bc 18 .geq 2 17 .i64 0,Mv 19 18,⟨some 20,some (19,true),.op false (.fieldAddr 0 (.tmp 3))⟩,⟨some 21,some (19,true),.op false (.load1 (.int .i64) (.tmp 20))⟩,⟨some 22,some (19,true),.op false (.old (.binOp .lss 2 (.tmp 21) (.const (.int .i64 0)) 2))⟩,Ol 23 (.pick (.tmp 19) (.tmp 22) (.const (.bool false))),As 15 23])
 (.cond (.tmp 15) (.seq (.reg (some []) [Ac 4 1])
 .ret)
 .skip)))))
 (.seq (.draw (some [2,3]) 14 [Dr (Fa 24 0 2) 0 [1,2,5,8,11,12,13],Db (L1 25 24) 1 24 [2,5,8,11,12,13],Dr (Fa 27 1 3) 3 [4,5,8,11,12,13],Db (L1 28 27) 4 27 [5,8,11,12,13],Dr (Fa 30 0 3) 6 [7,8,11,12,13],Db (L1 31 30) 7 30 [8,11,12,13],Dr (Fa 33 1 2) 9 [10,11,12,13],Db (L1 34 33) 10 33 [11,12,13],⟨Ca 26 71 [.tmp 25] (some (.val (.one (.int .u64)))),2,.all,[5,8,11,12,13],false,false⟩,⟨Ca 29 71 [.tmp 28] (some (.val (.one (.int .u64)))),5,.all,[8,11,12,13],false,false⟩,⟨Ca 32 71 [.tmp 31] (some (.val (.one (.int .u64)))),8,.all,[11,12,13],false,false⟩,⟨Ca 35 71 [.tmp 34] (some (.val (.one (.int .u64)))),11,.all,[12,13],false,false⟩,⟨Ca 36 92 [.tmp 26,.tmp 29,.tmp 32,.tmp 35] (some (.val (.one (.int .i64)))),12,.all,[13],false,false⟩,Dr (As 5 36) 13 []])
 (.seq (.seq (.reg (some [2,5]) [Fa 37 0 2,L1 38 37,Bc 39 .lss 2 38 .i64 0])
 (.cond (.tmp 39) (.seq (.reg (some [5]) [Mv 40 5,Ol 41 (.unOp .neg 3 (.tmp 40)),As 4 41])
 .ret)
 .skip))
 (.seq (.reg (some [5]) [Mv 42 5,As 4 42])
 .ret)))),
 [.tmp 4],
 [],
 []⟩
theorem r72_ok : resFun (progU ()) hint live 72 Tryz.f72 = some r72:=by kernel_rfl
def r73 : RFun :=
⟨.seq (.reg (some [0,1]) [Ac 4 0])
 (.seq (.reg (some [0,1]) [Mv 6 0,Mv 7 1,Bt 8 .quo 2 6 7,As 5 8])
 (.seq (.seq (.reg (some [0,1,5]) [Mv 9 0,Mv 10 1,Bt 11 .rem 2 9 10,Bc 12 .lss 2 11 .i64 0])
 (.cond (.tmp 12) (.reg (some [5]) [Mv 13 5,Bc 14 .sub 2 13 .i64 1,As 5 14])
 .skip))
 (.seq (.reg (some [5]) [Mv 15 5,As 4 15])
 .ret))),
 [.tmp 4],
 [],
 []⟩
theorem r73_ok : resFun (progU ()) hint live 73 Tryz.f73 = some r73:=by kernel_rfl
end Go.Proofs.YtkbgkjlgnmlghaaGreat
