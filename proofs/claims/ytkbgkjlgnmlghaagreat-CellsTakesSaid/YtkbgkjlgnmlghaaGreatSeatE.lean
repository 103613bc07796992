import Derived.Test.YtkbgkjlgnmlghaaGreatSeat0
import Derived.Test.YtkbgkjlgnmlghaaGreatSymS
set_option linter.unusedSimpArgs false
set_option linter.unusedVariables false
namespace Go.Proofs.YtkbgkjlgnmlghaaGreat
open Go.Sim
set_option maxRecDepth 100000
def r86 : RFun :=
⟨.seq (.reg (some [0]) [Ac 2 0])
 (.seq (.seq (.reg (some [0,2]) [Mv 3 0,Bc 4 .geq 100 3 .u64 4294967296])
 (.cond (.tmp 4) (.seq (.reg (some [0]) [Mv 5 0,Ol 6 (.binOp .shr 100 (.tmp 5) (.const (.int .u64 32)) 91),As 0 6])
 (.reg (some [0]) [Ac 2 32]))
 .skip))
 (.seq (.seq (.reg (some [0,2]) [Mv 7 0,Bc 8 .geq 100 7 .u64 65536])
 (.cond (.tmp 8) (.seq (.reg (some [0,2]) [Mv 9 0,Ol 10 (.binOp .shr 100 (.tmp 9) (.const (.int .u64 16)) 91),As 0 10])
 (.reg (some [0,2]) [Mv 11 2,Bc 12 .add 3 11 .i64 16,As 2 12]))
 .skip))
 (.seq (.seq (.reg (some [0,2]) [Mv 13 0,Bc 14 .geq 100 13 .u64 256])
 (.cond (.tmp 14) (.seq (.reg (some [0,2]) [Mv 15 0,Ol 16 (.binOp .shr 100 (.tmp 15) (.const (.int .u64 8)) 91),As 0 16])
 (.reg (some [0,2]) [Mv 17 2,Bc 18 .add 3 17 .i64 8,As 2 18]))
 .skip))
 (.seq (.reg (some [0,2]) [Mv 19 2,Mv 20 0,Ro 21 (.convI .u8 (.tmp 20)),⟨some 22,none,.op false (.old (.index 9 (.const (.string ⟨#[0,1,2,2,3,3,3,3,4,4,4,4,4,4,4,4,5,5,5,5,5,5,5,5,5,5,5,5,5,5,5,5,6,6,6,6,6,6,6,6,6,6,6,6,6,6,6,6,6,6,6,6,6,6,6,6,6,6,6,6,6,6,6,6,7,7,7,7,7,7,7,7,7,7,7,7,7,7,7,7,7,7,7,7,7,7,7,7,7,7,7,7,7,7,7,7,7,7,7,7,7,7,7,7,7,7,7,7,7,7,7,7,7,7,7,7,7,7,7,7,7,7,7,7,7,7,7,7,8,8,8,8,8,8,8,8,8,8,8,8,8,8,8,8,8,8,8,8,8,8,8,8,8,8,8,8,8,8,8,8,8,8,8,8,8,8,8,8,8,8,8,8,8,8,8,8,8,8,8,8,8,8,8,8,8,8,8,8,8,8,8,8,8,8,8,8,8,8,8,8,8,8,8,8,8,8,8,8,8,8,8,8,8,8,8,8,8,8,8,8,8,8,8,8,8,8,8,8,8,8,8,8,8,8,8,8,8,8,8,8,8,8,8,8,8,8,8,8,8,8,8,8,8,8,8,8]⟩)) (.tmp 21)))⟩,Ro 23 (.convI .i64 (.tmp 22)),Bt 24 .add 3 19 23,As 2 24])
 .ret)))),
 [.tmp 2],
 [],
 []⟩
theorem r86_ok : resFun (progU ()) hint live 86 Tryz.f86 = some r86:=by kernel_rfl
def r87 : RFun :=
⟨.seq (.reg (some [0,1]) [Ro 2 (.box 4 (.tmp 0)),Ro 3 (.box 4 (.tmp 1)),Ol 4 (.assign (.const (.bool false)))])
 (.seq (.seq (.reg (some [2,3]) [Ac 5 3])
 (.block 0 (.loop 2 (some [2,3,5]) (some [2,3,5]))))
 (.seq (.reg (some []) [Ol 4 (.assign (.const (.bool false)))])
 .ret)),
 [.tmp 4],
 [(2,⟨some [2,3,5],some [2,3,5],.seq (.seq (.reg (some [2,3,5]) [Mv 6 5,Bc 7 .geq 3 6 .i64 0])
 (.cond (.tmp 7) .skip
 (.exit 0 (some []))))
 (.seq (.block 1 (.seq (.draw (some [2,3,5]) 9 [Dr (Mv 10 5) 0 [2,3,8],Dr (Fa 11 0 2) 1 [2,3,8],Dr (Ro 12 (.ixA 4 1 (.tmp 11) (.tmp 10))) 2 [3,8],Db (Ro 13 (.load1 (.int .u64) (.tmp 12))) 3 12 [8],Dr (Mv 14 5) 4 [6,7,8],Dr (Fa 15 0 3) 5 [6,7,8],Dr (Ro 16 (.ixA 4 1 (.tmp 15) (.tmp 14))) 6 [7,8],Db (Ro 17 (.load1 (.int .u64) (.tmp 16))) 7 16 [8],Dr (Bt 18 .neq 100 13 17) 8 []])
 (.cond (.tmp 18) (.seq (.draw (some [2,3,5]) 10 [Dr (Mv 19 5) 0 [2,3,8,9],Dr (Fa 20 0 2) 1 [2,3,8,9],Dr (Ro 21 (.ixA 4 1 (.tmp 20) (.tmp 19))) 2 [3,8,9],Db (Ro 22 (.load1 (.int .u64) (.tmp 21))) 3 21 [8,9],Dr (Mv 23 5) 4 [6,7,8,9],Dr (Fa 24 0 3) 5 [6,7,8,9],Dr (Ro 25 (.ixA 4 1 (.tmp 24) (.tmp 23))) 6 [7,8,9],Db (Ro 26 (.load1 (.int .u64) (.tmp 25))) 7 25 [8,9],Dr (Bt 27 .lss 100 22 26) 8 [9],Dr (As 4 27) 9 []])
 .ret)
 .skip)))
 (.reg (some [2,3,5]) [Mv 8 5,Bc 9 .sub 3 8 .i64 1,As 5 9]))⟩)],
 []⟩
theorem r87_ok : resFun (progU ()) hint live 87 Tryz.f87 = some r87:=by kernel_rfl
def r88 : RFun :=
⟨.seq (.reg (some [0]) [Ro 1 (.box 4 (.tmp 0)),Ac 2 0,Ol 3 (.assign (.const (.bool false)))])
 (.seq (.reg (some [1]) [Fa 5 0 1,Ro 6 (.ixA 4 1 (.tmp 5) (.const (.int .i64 1))),Ro 7 (.load1 (.int .u64) (.tmp 6)),Ol 8 (.binOp .shl 100 (.tmp 7) (.const (.int .u64 32)) 91),Fa 9 0 1,Ro 10 (.ixA 4 1 (.tmp 9) (.const (.int .i64 0))),Ro 11 (.load1 (.int .u64) (.tmp 10)),Bt 12 .or 100 8 11,As 4 12])
 (.seq (.reg (some [1,4]) [Mv 13 4,Bc 14 .and 100 13 .u64 9223372036854775807,Ro 15 (.convI .i64 (.tmp 14)),Fa 16 0 1,Ro 17 (.ixA 4 1 (.tmp 16) (.const (.int .i64 2))),Ro 18 (.load1 (.int .u64) (.tmp 17)),Bc 19 .eql 100 18 .u64 0,Mv 20 19,⟨some 21,some (20,true),.op false (.fieldAddr 0 (.tmp 1))⟩,⟨some 22,some (20,true),.op false (.ixA 4 1 (.tmp 21) (.const (.int .i64 3)))⟩,⟨some 23,some (20,true),.op false (.load1 (.int .u64) (.tmp 22))⟩,⟨some 24,some (20,true),.op false (.old (.binOp .eql 100 (.tmp 23) (.const (.int .u64 0)) 100))⟩,Ol 25 (.pick (.tmp 20) (.tmp 24) (.const (.bool false))),Mv 26 25,⟨some 27,some (26,true),.op false (.old (.move (.tmp 4)))⟩,⟨some 28,some (26,true),.op false (.old (.binOp .leq 100 (.tmp 27) (.const (.int .u64 1000000000000000000)) 100))⟩,Ol 29 (.pick (.tmp 26) (.tmp 28) (.const (.bool false))),As 2 15,As 3 29])
 .ret)),
 [.tmp 2,.tmp 3],
 [],
 []⟩
theorem r88_ok : resFun (progU ()) hint live 88 Tryz.f88 = some r88:=by kernel_rfl
def r89 : RFun :=
⟨.seq (.reg (some [0]) [⟨some 2,none,.op true (.new 4 [.int .u64 0,.int .u64 0,.int .u64 0,.int .u64 0])⟩])
 (.seq (.reg (some [0,2]) [Mv 3 0,Bc 4 .and 100 3 .u64 4294967295,Mv 5 0,Ol 6 (.binOp .shr 100 (.tmp 5) (.const (.int .u64 32)) 91),Ro 7 (.build [.int .u64 0,.int .u64 0,.int .u64 0,.int .u64 0] [(0,1,(.tmp 4)),(1,1,(.tmp 6)),(2,1,(.const (.int .u64 0))),(3,1,(.const (.int .u64 0)))]),Ro 8 (.build [.int .u64 0,.int .u64 0,.int .u64 0,.int .u64 0] [(0,4,(.tmp 7))]),⟨none,none,.op false (.store 4 (.tmp 2) (.tmp 8))⟩])
 .ret),
 [.agg 2 4 [.int .u64,.int .u64,.int .u64,.int .u64]],
 [],
 []⟩
theorem r89_ok : resFun (progU ()) hint live 89 Tryz.f89 = some r89:=by kernel_rfl
def r90 : RFun :=
⟨.seq (.reg (some [0,1]) [⟨some 2,none,.op true (.box 2 (.tmp 0))⟩,⟨some 3,none,.op true (.box 2 (.tmp 1))⟩,⟨some 4,none,.op true (.new 2 [.int .i64 0,.int .i64 0])⟩,Ac 5 0])
 (.seq (.seq (.reg (some [2,3,4]) [Ld 12 2,Ld 13 3,Ca 14 60 [.tmp 12,.tmp 13] (some (.val (.one (.int .i64)))),Bc 15 .neq 3 14 .i64 0])
 (.cond (.tmp 15) (.seq (.reg (some [2,3,4]) [Ro 16 (.build [.int .i64 0,.int .i64 0] []),Ld 17 2,Ld 18 3,Ca 19 60 [.tmp 17,.tmp 18] (some (.val (.one (.int .i64)))),⟨none,none,.op false (.store 2 (.tmp 4) (.tmp 16))⟩,As 5 19])
 .ret)
 .skip))
 (.seq (.reg (some [2,3,4]) [Fa 20 1 2,L1 21 20,Ro 22 (.convI .u64 (.tmp 21)),Fa 23 1 3,L1 24 23,Ro 25 (.convI .u64 (.tmp 24)),Ca 26 61 [.tmp 22,.tmp 25] (some (.val (.one (.int .u64)))),As 6 26])
 (.seq (.draw (some [2,3,4,6]) 22 [Dr (Fa 27 0 2) 0 [1,2,8,11,17,20,21],Db (L1 28 27) 1 27 [2,8,11,17,20,21],Dr (Fa 30 1 3) 3 [4,5,7,8,11,17,20,21],Db (L1 31 30) 4 30 [5,7,8,11,17,20,21],⟨Ro 32 (.convI .u64 (.tmp 31)),5,.cvt (.tmp 31),[7,8,11,17,20,21],false,true⟩,Dr (Mv 33 6) 6 [7,8,11,17,20,21],Dr (Bt 34 .quo 100 32 33) 7 [8,11,17,20,21],Dr (Fa 36 0 3) 9 [10,11,17,20,21],Db (L1 37 36) 10 36 [11,17,20,21],Dr (Fa 39 1 2) 12 [13,14,16,17,20,21],Db (L1 40 39) 13 39 [14,16,17,20,21],⟨Ro 41 (.convI .u64 (.tmp 40)),14,.cvt (.tmp 40),[16,17,20,21],false,true⟩,Dr (Mv 42 6) 15 [16,17,20,21],Dr (Bt 43 .quo 100 41 42) 16 [17,20,21],⟨⟨some 7,none,.op true (.new 4 [.int .u64 0,.int .u64 0,.int .u64 0,.int .u64 0])⟩,18,.new true,[20,21],false,true⟩,⟨⟨some 8,none,.op true (.new 4 [.int .u64 0,.int .u64 0,.int .u64 0,.int .u64 0])⟩,19,.new true,[20,21],false,true⟩,⟨Ca 29 62 [.tmp 28] (some (.val (.one (.int .u64)))),2,.all,[8,11,17,20,21],false,false⟩,⟨Ca 35 64 [.tmp 29,.tmp 34] (some (.val (.agg [.int .u64,.int .u64,.int .u64,.int .u64]))),8,.all,[11,17,20,21],false,false⟩,⟨Ca 38 62 [.tmp 37] (some (.val (.one (.int .u64)))),11,.all,[17,20,21],false,false⟩,⟨Ca 44 64 [.tmp 38,.tmp 43] (some (.val (.agg [.int .u64,.int .u64,.int .u64,.int .u64]))),17,.all,[20,21],false,false⟩,⟨⟨none,none,.op false (.store 4 (.tmp 7) (.tmp 35))⟩,20,.blk (.tmp 7),[21],true,true⟩,⟨⟨none,none,.op false (.store 4 (.tmp 8) (.tmp 44))⟩,21,.blk (.tmp 8),[],true,true⟩])
 (.seq (.seq (.reg (some [2,3,4,6,7,8]) [Fa 45 0 2,L1 46 45,Bc 47 .lss 2 46 .i64 0,Fa 48 0 3,L1 49 48,Bc 50 .lss 2 49 .i64 0,Bt 51 .eql 4 47 50])
 (.cond (.tmp 51) (.reg (some [2,3,4,6,7,8]) [Ro 52 (.load 4 [.int .u64,.int .u64,.int .u64,.int .u64] (.tmp 7)),Ro 53 (.load 4 [.int .u64,.int .u64,.int .u64,.int .u64] (.tmp 8)),Ca 54 103 [.tmp 52,.tmp 53] (some (.val (.agg [.int .u64,.int .u64,.int .u64,.int .u64]))),⟨none,none,.op false (.store 4 (.tmp 7) (.tmp 54))⟩])
 (.seq (.reg (some [2,3,4,6,7,8]) [Ro 55 (.load 4 [.int .u64,.int .u64,.int .u64,.int .u64] (.tmp 7)),Ro 56 (.load 4 [.int .u64,.int .u64,.int .u64,.int .u64] (.tmp 8)),Ca 57 87 [.tmp 55,.tmp 56] (some (.val (.one .bool)))])
 (.cond (.tmp 57) (.draw (some [2,3,4,6,7,8]) 8 [Db (Ro 58 (.load 4 [.int .u64,.int .u64,.int .u64,.int .u64] (.tmp 8))) 0 8 [2,5,6,7],Db (Ro 59 (.load 4 [.int .u64,.int .u64,.int .u64,.int .u64] (.tmp 7))) 1 7 [2,5,6,7],Db (Ld 61 3) 3 3 [6,7],Db (Ld 62 2) 4 2 [5,6,7],⟨Ca 60 104 [.tmp 58,.tmp 59] (some (.val (.agg [.int .u64,.int .u64,.int .u64,.int .u64]))),2,.all,[5,6,7],false,false⟩,⟨⟨none,none,.op false (.store 4 (.tmp 7) (.tmp 60))⟩,5,.blk (.tmp 7),[6,7],true,true⟩,⟨⟨none,none,.op false (.store 2 (.tmp 2) (.tmp 61))⟩,6,.blk (.tmp 2),[7],true,true⟩,⟨⟨none,none,.op false (.store 2 (.tmp 3) (.tmp 62))⟩,7,.blk (.tmp 3),[],true,true⟩])
 (.reg (some [2,3,4,6,7,8]) [Ro 63 (.load 4 [.int .u64,.int .u64,.int .u64,.int .u64] (.tmp 7)),Ro 64 (.load 4 [.int .u64,.int .u64,.int .u64,.int .u64] (.tmp 8)),Ca 65 104 [.tmp 63,.tmp 64] (some (.val (.agg [.int .u64,.int .u64,.int .u64,.int .u64]))),⟨none,none,.op false (.store 4 (.tmp 7) (.tmp 65))⟩])))))
 (.seq (.reg (some [2,3,4,6,7]) [Ro 67 (.load 4 [.int .u64,.int .u64,.int .u64,.int .u64] (.tmp 7)),Mv 68 6,Ca 69 105 [.tmp 67,.tmp 68] (some (.tup [.agg [.int .u64,.int .u64,.int .u64,.int .u64],.one (.int .u64)])),Mv 66 69,Ex 70 66 0,Ex 71 66 1,⟨some 9,none,.op true (.new 4 [.int .u64 0,.int .u64 0,.int .u64 0,.int .u64 0])⟩,⟨none,none,.op false (.store 4 (.tmp 9) (.tmp 70))⟩,As 10 71])
 (.seq (.reg (some [2,3,4,6,7,10]) [Mv 72 10,Mv 73 6,Ca 74 61 [.tmp 72,.tmp 73] (some (.val (.one (.int .u64)))),As 11 74])
 (.seq (.reg (some [2,3,4,6,7,11]) [Ro 76 (.load 4 [.int .u64,.int .u64,.int .u64,.int .u64] (.tmp 7)),Mv 77 11,Ca 78 105 [.tmp 76,.tmp 77] (some (.tup [.agg [.int .u64,.int .u64,.int .u64,.int .u64],.one (.int .u64)])),Mv 75 78,Ex 79 75 0,Ex 80 75 1,⟨none,none,.op false (.store 4 (.tmp 7) (.tmp 79))⟩])
 (.seq (.seq (.reg (some [2,3,4,6,7,11]) [Ro 81 (.load 4 [.int .u64,.int .u64,.int .u64,.int .u64] (.tmp 7)),Ro 82 (.build [.int .u64 0,.int .u64 0,.int .u64 0,.int .u64 0] []),Bt 83 .eql 106 81 82])
 (.cond (.tmp 83) (.seq (.reg (some [4]) [Ro 84 (.build [.int .i64 0,.int .i64 0] [(1,1,(.const (.int .i64 1)))]),⟨none,none,.op false (.store 2 (.tmp 4) (.tmp 84))⟩,Ac 5 0])
 .ret)
 .skip))
 (.seq (.draw (some [2,3,4,6,7,11]) 20 [Dr (Fa 85 0 2) 0 [1,2,15,16,17,18,19],Db (L1 86 85) 1 85 [2,15,16,17,18,19],Dr (Bc 87 .lss 2 86 .i64 0) 2 [15,16,17,18,19],Db (Ro 88 (.load 4 [.int .u64,.int .u64,.int .u64,.int .u64] (.tmp 7))) 3 7 [15,16,17,18,19],Dr (Fa 89 1 2) 4 [5,6,8,14,15,16,17,18,19],Db (L1 90 89) 5 89 [6,8,14,15,16,17,18,19],⟨Ro 91 (.convI .u64 (.tmp 90)),6,.cvt (.tmp 90),[8,14,15,16,17,18,19],false,true⟩,Dr (Mv 92 6) 7 [8,14,15,16,17,18,19],Dr (Bt 93 .quo 100 91 92) 8 [14,15,16,17,18,19],Dr (Fa 94 1 3) 9 [10,11,13,14,15,16,17,18,19],Db (L1 95 94) 10 94 [11,13,14,15,16,17,18,19],⟨Ro 96 (.convI .u64 (.tmp 95)),11,.cvt (.tmp 95),[13,14,15,16,17,18,19],false,true⟩,Dr (Mv 97 11) 12 [13,14,15,16,17,18,19],Dr (Bt 98 .quo 100 96 97) 13 [14,15,16,17,18,19],⟨Ca 99 64 [.tmp 93,.tmp 98] (some (.val (.agg [.int .u64,.int .u64,.int .u64,.int .u64]))),14,.all,[15,16,17,18,19],false,false⟩,⟨Ca 100 63 [.tmp 87,.tmp 88,.tmp 99] (some (.tup [.agg [.int .i64,.int .i64],.one (.int .i64)])),15,.all,[16,17,18,19],false,false⟩,Dr (Ex 101 100 0) 16 [18,19],Dr (Ex 102 100 1) 17 [18,19],⟨⟨none,none,.op false (.store 2 (.tmp 4) (.tmp 101))⟩,18,.blk (.tmp 4),[19],true,true⟩,Dr (As 5 102) 19 []])
 .ret))))))))),
 [.agg 4 2 [.int .i64,.int .i64],.tmp 5],
 [],
 []⟩
theorem r90_ok : resFun (progU ()) hint live 90 Tryz.f90 = some r90:=by kernel_rfl
def r91 : RFun :=
⟨.seq (.reg (some [0]) [⟨some 1,none,.op true (.box 2 (.tmp 0))⟩,⟨some 2,none,.op true (.new 2 [.int .i64 0,.int .i64 0])⟩])
 (.seq (.reg (some [1,2]) [Fa 3 0 1,L1 4 3,Ol 5 (.unOp .neg 2 (.tmp 4)),Fa 6 1 1,L1 7 6,Ro 8 (.build [.int .i64 0,.int .i64 0] [(0,1,(.tmp 5)),(1,1,(.tmp 7))]),⟨none,none,.op false (.store 2 (.tmp 2) (.tmp 8))⟩])
 .ret),
 [.agg 2 2 [.int .i64,.int .i64]],
 [],
 []⟩
theorem r91_ok : resFun (progU ()) hint live 91 Tryz.f91 = some r91:=by kernel_rfl
def r92 : RFun :=
⟨.seq (.reg (some [0,1,2,3]) [Ac 8 0])
 (.seq (.reg (some [0,1,2,3]) [Mv 14 0,Mv 15 1,Ca 16 75 [.tmp 14,.tmp 15] (some (.tup [.one (.int .u64),.one (.int .u64)])),Mv 13 16,Ex 17 13 0,Ex 18 13 1,As 9 17,As 10 18])
 (.seq (.reg (some [2,3,9,10]) [Mv 20 2,Mv 21 3,Ca 22 75 [.tmp 20,.tmp 21] (some (.tup [.one (.int .u64),.one (.int .u64)])),Mv 19 22,Ex 23 19 0,Ex 24 19 1,As 11 23,As 12 24])
 (.seq (.reg (some [9,10,11,12]) [Mv 25 9,Mv 26 10,Mv 27 11,Mv 28 12,Ca 29 94 [.tmp 25,.tmp 26,.tmp 27,.tmp 28] (some (.val (.one (.int .i64)))),As 8 29])
 .ret))),
 [.tmp 8],
 [],
 []⟩
theorem r92_ok : resFun (progU ()) hint live 92 Tryz.f92 = some r92:=by kernel_rfl
def r94 : RFun :=
⟨.seq (.reg (some [0,1,2,3]) [Ac 8 0])
 (.seq (.block 0 (.seq (.reg (some [0,1,2,3]) [Mv 10 0,Mv 11 2,Bt 12 .gtr 100 10 11,Mv 13 12,⟨some 14,some (13,false),.op false (.old (.move (.tmp 0)))⟩,⟨some 15,some (13,false),.op false (.old (.move (.tmp 2)))⟩,⟨some 16,some (13,false),.op false (.old (.binOp .eql 100 (.tmp 14) (.tmp 15) 100))⟩,⟨some 17,some (13,false),.op false (.old (.move (.tmp 16)))⟩,⟨some 18,some (17,true),.op false (.old (.move (.tmp 1)))⟩,⟨some 19,some (17,true),.op false (.old (.move (.tmp 3)))⟩,⟨some 20,some (17,true),.op false (.old (.binOp .gtr 100 (.tmp 18) (.tmp 19) 100))⟩,⟨some 21,some (13,false),.op false (.old (.pick (.tmp 17) (.tmp 20) (.const (.bool false))))⟩,Ol 22 (.pick (.tmp 13) (.const (.bool true)) (.tmp 21)),As 9 22])
 (.cond (.tmp 9) (.seq (.reg (some []) [Ac 8 1])
 .ret)
 (.seq (.reg (some [0,1,2,3]) [Mv 24 0,Mv 25 2,Bt 26 .eql 100 24 25,Mv 27 26,⟨some 28,some (27,true),.op false (.old (.move (.tmp 1)))⟩,⟨some 29,some (27,true),.op false (.old (.move (.tmp 3)))⟩,⟨some 30,some (27,true),.op false (.old (.binOp .eql 100 (.tmp 28) (.tmp 29) 100))⟩,Ol 31 (.pick (.tmp 27) (.tmp 30) (.const (.bool false))),As 23 31])
 (.cond (.tmp 23) (.seq (.reg (some []) [Ac 8 0])
 .ret)
 .skip)))))
 (.seq (.reg (some []) [Ol 8 (.assign (.const (.int .i64 (-1))))])
 .ret)),
 [.tmp 8],
 [],
 []⟩
theorem r94_ok : resFun (progU ()) hint live 94 Tryz.f94 = some r94:=by kernel_rfl
def r96 : RFun :=
⟨.seq (.reg (some [0,1,2]) [Ol 6 (.assign (.const (.int .u64 0)))])
 (.seq (.reg (some [0,1,2]) [Mv 10 0,Mv 11 2,Bt 12 .rem 100 10 11,Mv 13 1,Mv 14 2,Ca 15 97 [.tmp 12,.tmp 13,.tmp 14] (some (.tup [.one (.int .u64),.one (.int .u64)])),Mv 9 15,Ex 16 9 0,Ex 17 9 1,As 7 16,As 8 17])
 (.seq (.reg (some [8]) [Mv 18 8,As 6 18])
 .ret)),
 [.tmp 6],
 [],
 []⟩
theorem r96_ok : resFun (progU ()) hint live 96 Tryz.f96 = some r96:=by kernel_rfl
def r97 : RFun :=
⟨.seq (.reg (some [0,1,2]) [Ol 6 (.assign (.const (.int .u64 0))),Ol 7 (.assign (.const (.int .u64 0)))])
 (.seq (.seq (.reg (some [0,1,2]) [Mv 19 2,Bc 20 .eql 100 19 .u64 0])
 (.cond (.tmp 20) (.reg (some [0,1,2]) [Ro 21 (.load1 .any (.global 0)),⟨none,none,.op false (.old (.panic (.tmp 21)))⟩])
 .skip))
 (.seq (.seq (.reg (some [0,1,2]) [Mv 22 2,Mv 23 0,Bt 24 .leq 100 22 23])
 (.cond (.tmp 24) (.reg (some [0,1,2]) [Ro 25 (.load1 .any (.global 1)),⟨none,none,.op false (.old (.panic (.tmp 25)))⟩])
 .skip))
 (.seq (.seq (.reg (some [0,1,2]) [Mv 26 0,Bc 27 .eql 100 26 .u64 0])
 (.cond (.tmp 27) (.seq (.draw (some [1,2]) 8 [Dr (Mv 28 1) 0 [2,6,7],Dr (Mv 29 2) 1 [2,6,7],Dr (Bt 30 .quo 100 28 29) 2 [6,7],Dr (Mv 31 1) 3 [5,7],Dr (Mv 32 2) 4 [5,7],Dr (Bt 33 .rem 100 31 32) 5 [7],Dr (As 6 30) 6 [7],Dr (As 7 33) 7 []])
 .ret)
 .skip))
 (.seq (.reg (some [0,1,2]) [Mv 34 2,Ca 35 106 [.tmp 34] (some (.val (.one (.int .i64)))),Ro 36 (.convI .u64 (.tmp 35)),As 8 36])
 (.seq (.reg (some [0,1,2,8]) [Mv 37 2,Mv 38 8,Ol 39 (.binOp .shl 100 (.tmp 37) (.tmp 38) 91),As 2 39])
 (.seq (.reg (some [0,1,2,8]) [Mv 40 2,Ol 41 (.binOp .shr 100 (.tmp 40) (.const (.int .u64 32)) 91),As 9 41])
 (.seq (.reg (some [0,1,2,8,9]) [Mv 42 2,Bc 43 .and 100 42 .u64 4294967295,As 10 43])
 (.seq (.reg (some [0,1,2,8,9,10]) [Mv 44 0,Mv 45 8,Ol 46 (.binOp .shl 100 (.tmp 44) (.tmp 45) 91),Mv 47 1,Mv 48 8,Ol 49 (.binOp .sub 91 (.const (.int .u64 64)) (.tmp 48) 91),Ol 50 (.binOp .shr 100 (.tmp 47) (.tmp 49) 91),Bt 51 .or 100 46 50,As 11 51])
 (.seq (.reg (some [1,2,8,9,10,11]) [Mv 52 1,Mv 53 8,Ol 54 (.binOp .shl 100 (.tmp 52) (.tmp 53) 91),As 12 54])
 (.seq (.reg (some [2,8,9,10,11,12]) [Mv 55 12,Ol 56 (.binOp .shr 100 (.tmp 55) (.const (.int .u64 32)) 91),As 13 56])
 (.seq (.reg (some [2,8,9,10,11,12,13]) [Mv 57 12,Bc 58 .and 100 57 .u64 4294967295,As 14 58])
 (.seq (.reg (some [2,8,9,10,11,13,14]) [Mv 59 11,Mv 60 9,Bt 61 .quo 100 59 60,As 15 61])
 (.seq (.reg (some [2,8,9,10,11,13,14,15]) [Mv 62 11,Mv 63 15,Mv 64 9,Bt 65 .mul 100 63 64,Bt 66 .sub 100 62 65,As 16 66])
 (.seq (.block 0 (.loop 17 none (some [2,8,9,10,11,13,14,15,16])))
 (.seq (.reg (some [2,8,9,10,11,13,14,15]) [Mv 86 11,Bc 87 .mul 100 86 .u64 4294967296,Mv 88 13,Bt 89 .add 100 87 88,Mv 90 15,Mv 91 2,Bt 92 .mul 100 90 91,Bt 93 .sub 100 89 92,As 17 93])
 (.seq (.reg (some [2,8,9,10,14,15,17]) [Mv 94 17,Mv 95 9,Bt 96 .quo 100 94 95,As 18 96])
 (.seq (.reg (some [2,8,9,10,14,15,17,18]) [Mv 97 17,Mv 98 18,Mv 99 9,Bt 100 .mul 100 98 99,Bt 101 .sub 100 97 100,As 16 101])
 (.seq (.block 2 (.loop 24 none (some [2,8,9,10,14,15,16,17,18])))
 (.seq (.reg (some [2,8,14,15,17,18]) [Mv 121 15,Bc 122 .mul 100 121 .u64 4294967296,Mv 123 18,Bt 124 .add 100 122 123,Mv 125 17,Bc 126 .mul 100 125 .u64 4294967296,Mv 127 14,Bt 128 .add 100 126 127,Mv 129 18,Mv 130 2,Bt 131 .mul 100 129 130,Bt 132 .sub 100 128 131,Mv 133 8,Ol 134 (.binOp .shr 100 (.tmp 132) (.tmp 133) 91),As 6 124,As 7 134])
 .ret))))))))))))))))))),
 [.tmp 6,.tmp 7],
 [(17,⟨none,some [2,8,9,10,11,13,14,15,16],.seq (.seq (.reg (some [2,8,9,10,11,13,14,15,16]) [Mv 67 15,Bc 68 .geq 100 67 .u64 4294967296,Mv 69 68,⟨some 70,some (69,false),.op false (.old (.move (.tmp 15)))⟩,⟨some 71,some (69,false),.op false (.old (.move (.tmp 10)))⟩,⟨some 72,some (69,false),.op false (.old (.binOp .mul 100 (.tmp 70) (.tmp 71) 100))⟩,⟨some 73,some (69,false),.op false (.old (.move (.tmp 16)))⟩,⟨some 74,some (69,false),.op false (.old (.binOp .mul 100 (.const (.int .u64 4294967296)) (.tmp 73) 100))⟩,⟨some 75,some (69,false),.op false (.old (.move (.tmp 13)))⟩,⟨some 76,some (69,false),.op false (.old (.binOp .add 100 (.tmp 74) (.tmp 75) 100))⟩,⟨some 77,some (69,false),.op false (.old (.binOp .gtr 100 (.tmp 72) (.tmp 76) 100))⟩,Ol 78 (.pick (.tmp 69) (.const (.bool true)) (.tmp 77))])
 (.cond (.tmp 78) .skip
 (.exit 0 (some [2,8,9,10,11,13,14,15]))))
 (.block 1 (.seq (.reg (some [2,8,9,10,11,13,14,15,16]) [Mv 79 15,Bc 80 .sub 100 79 .u64 1,As 15 80])
 (.seq (.reg (some [2,8,9,10,11,13,14,15,16]) [Mv 81 16,Mv 82 9,Bt 83 .add 100 81 82,As 16 83])
 (.seq (.reg (some [2,8,9,10,11,13,14,15,16]) [Mv 84 16,Bc 85 .geq 100 84 .u64 4294967296])
 (.cond (.tmp 85) (.exit 0 (some [2,8,9,10,11,13,14,15]))
 .skip)))))⟩),(24,⟨none,some [2,8,9,10,14,15,16,17,18],.seq (.seq (.reg (some [2,8,9,10,14,15,16,17,18]) [Mv 102 18,Bc 103 .geq 100 102 .u64 4294967296,Mv 104 103,⟨some 105,some (104,false),.op false (.old (.move (.tmp 18)))⟩,⟨some 106,some (104,false),.op false (.old (.move (.tmp 10)))⟩,⟨some 107,some (104,false),.op false (.old (.binOp .mul 100 (.tmp 105) (.tmp 106) 100))⟩,⟨some 108,some (104,false),.op false (.old (.move (.tmp 16)))⟩,⟨some 109,some (104,false),.op false (.old (.binOp .mul 100 (.const (.int .u64 4294967296)) (.tmp 108) 100))⟩,⟨some 110,some (104,false),.op false (.old (.move (.tmp 14)))⟩,⟨some 111,some (104,false),.op false (.old (.binOp .add 100 (.tmp 109) (.tmp 110) 100))⟩,⟨some 112,some (104,false),.op false (.old (.binOp .gtr 100 (.tmp 107) (.tmp 111) 100))⟩,Ol 113 (.pick (.tmp 104) (.const (.bool true)) (.tmp 112))])
 (.cond (.tmp 113) .skip
 (.exit 2 (some [2,8,14,15,17,18]))))
 (.block 3 (.seq (.reg (some [2,8,9,10,14,15,16,17,18]) [Mv 114 18,Bc 115 .sub 100 114 .u64 1,As 18 115])
 (.seq (.reg (some [2,8,9,10,14,15,16,17,18]) [Mv 116 16,Mv 117 9,Bt 118 .add 100 116 117,As 16 118])
 (.seq (.reg (some [2,8,9,10,14,15,16,17,18]) [Mv 119 16,Bc 120 .geq 100 119 .u64 4294967296])
 (.cond (.tmp 120) (.exit 2 (some [2,8,14,15,17,18]))
 .skip)))))⟩)],
 []⟩
theorem r97_ok : resFun (progU ()) hint live 97 Tryz.f97 = some r97:=by kernel_rfl
end Go.Proofs.YtkbgkjlgnmlghaaGreat
