import Derived.Test.YtnokkniofajnhaaSeat0
import Derived.Test.YtnokkniofajnhaaSymS
set_option linter.unusedSimpArgs false
set_option linter.unusedVariables false
namespace Go.Proofs.Ytnokkniofajnhaa
open Go.Sim
set_option maxRecDepth 100000
def r51 : RFun :=
⟨.seq (.reg (some [0,1,2]) [⟨some 4,none,.op true (.box 4 (.tmp 1))⟩,⟨some 5,none,.op true (.box 4 (.tmp 2))⟩,⟨some 6,none,.op true (.new 2 [.int .i64 0,.int .i64 0])⟩,Ac 7 0])
 (.seq (.reg (some [0,4,5,6]) [Ro 13 (.load 4 [.int .u64,.int .u64,.int .u64,.int .u64] (.tmp 4)),Ca 14 69 [.tmp 13] (some (.tup [.one (.int .i64),.one .bool])),Mv 12 14,Ex 15 12 0,Ex 16 12 1,As 8 15,As 9 16])
 (.seq (.reg (some [0,5,6,8,9]) [Ro 18 (.load 4 [.int .u64,.int .u64,.int .u64,.int .u64] (.tmp 5)),Ca 19 69 [.tmp 18] (some (.tup [.one (.int .i64),.one .bool])),Mv 17 19,Ex 20 17 0,Ex 21 17 1,As 10 20,As 11 21])
 (.seq (.seq (.reg (some [0,6,8,9,10,11]) [Mv 22 9,Ol 23 (.unOp .not 4 (.tmp 22)),Mv 24 23,⟨some 25,some (24,false),.op false (.old (.move (.tmp 11)))⟩,⟨some 26,some (24,false),.op false (.old (.unOp .not 4 (.tmp 25)))⟩,Ol 27 (.pick (.tmp 24) (.const (.bool true)) (.tmp 26))])
 (.cond (.tmp 27) (.seq (.reg (some [6]) [Ro 28 (.build [.int .i64 0,.int .i64 0] []),⟨none,none,.op false (.store 2 (.tmp 6) (.tmp 28))⟩,Ac 7 16])
 .ret)
 .skip))
 (.seq (.seq (.reg (some [0,6,8,10]) [Mv 29 0])
 (.cond (.tmp 29) (.reg (some [6,8,10]) [Mv 30 8,Ol 31 (.unOp .neg 2 (.tmp 30)),As 8 31])
 .skip))
 (.seq (.reg (some [6,8,10]) [Mv 32 8,Mv 33 10,Ro 34 (.build [.int .i64 0,.int .i64 0] [(0,1,(.tmp 32)),(1,1,(.tmp 33))]),⟨none,none,.op false (.store 2 (.tmp 6) (.tmp 34))⟩,Ac 7 0])
 .ret))))),
 [.agg 6 2 [.int .i64,.int .i64],.tmp 7],
 [],
 []⟩
theorem r51_ok : resFun (progU ()) hint live 51 Try.f51 = some r51:=by kernel_rfl
def r52 : RFun :=
⟨.seq (.reg (some [0]) [⟨some 2,none,.op true (.new 4 [.int .u64 0,.int .u64 0,.int .u64 0,.int .u64 0])⟩])
 (.seq (.reg (some [0,2]) [Mv 3 0,Bc 4 .and 80 3 .u64 4294967295,Mv 5 0,Ol 6 (.binOp .shr 80 (.tmp 5) (.const (.int .u64 32)) 100),Ro 7 (.build [.int .u64 0,.int .u64 0,.int .u64 0,.int .u64 0] [(0,1,(.tmp 4)),(1,1,(.tmp 6)),(2,1,(.const (.int .u64 0))),(3,1,(.const (.int .u64 0)))]),Ro 8 (.build [.int .u64 0,.int .u64 0,.int .u64 0,.int .u64 0] [(0,4,(.tmp 7))]),⟨none,none,.op false (.store 4 (.tmp 2) (.tmp 8))⟩])
 .ret),
 [.agg 2 4 [.int .u64,.int .u64,.int .u64,.int .u64]],
 [],
 []⟩
theorem r52_ok : resFun (progU ()) hint live 52 Try.f52 = some r52:=by kernel_rfl
def r53 : RFun :=
⟨.seq (.reg (some [0,1]) [Ol 4 (.assign (.const (.int .u64 0)))])
 (.seq (.block 0 (.loop 1 (some [0,1]) (some [0,1])))
 (.seq (.reg (some [0]) [Mv 11 0,As 4 11])
 .ret)),
 [.tmp 4],
 [(1,⟨some [0,1],some [0,1],.seq (.seq (.reg (some [0,1]) [Mv 5 1,Bc 6 .neq 80 5 .u64 0])
 (.cond (.tmp 6) .skip
 (.exit 0 (some [0]))))
 (.block 1 (.draw (some [0,1]) 6 [Dr (Mv 7 1) 0 [4,5],Dr (Mv 8 0) 1 [3,4,5],Dr (Mv 9 1) 2 [3,5],Dr (Bt 10 .rem 80 8 9) 3 [5],Dr (As 0 7) 4 [5],Dr (As 1 10) 5 []]))⟩)],
 []⟩
theorem r53_ok : resFun (progU ()) hint live 53 Try.f53 = some r53:=by kernel_rfl
def r54 : RFun :=
⟨.seq (.reg (some [0]) [Ol 2 (.assign (.const (.int .u64 0)))])
 (.seq (.seq (.reg (some [0]) [Mv 3 0,Bc 4 .lss 2 3 .i64 0])
 (.cond (.tmp 4) (.seq (.reg (some [0]) [Mv 5 0,Ro 6 (.convI .u64 (.tmp 5)),Ol 7 (.unOp .neg 80 (.tmp 6)),As 2 7])
 .ret)
 .skip))
 (.seq (.reg (some [0]) [Mv 8 0,Ro 9 (.convI .u64 (.tmp 8)),As 2 9])
 .ret)),
 [.tmp 2],
 [],
 []⟩
theorem r54_ok : resFun (progU ()) hint live 54 Try.f54 = some r54:=by kernel_rfl
def r55 : RFun :=
⟨.seq (.reg (some [0,1]) [⟨some 2,none,.op true (.box 2 (.tmp 0))⟩,⟨some 3,none,.op true (.box 2 (.tmp 1))⟩,Ac 4 0,Ac 5 0])
 (.seq (.seq (.reg (some [2,3]) [Ld 7 2,Ld 8 3,Ca 9 63 [.tmp 7,.tmp 8] (some (.val (.one (.int .i64)))),As 6 9])
 (.seq (.reg (some [2,3,6]) [Mv 10 6,Bc 11 .neq 26 10 .i64 0])
 (.cond (.tmp 11) (.seq (.reg (some [6]) [Mv 12 6,Ac 4 0,As 5 12])
 .ret)
 .skip)))
 (.seq (.reg (some [2,3]) [Ld 13 2,Ld 14 3,Ca 15 70 [.tmp 13,.tmp 14] (some (.val (.one (.int .i64)))),As 4 15,Ac 5 0])
 .ret)),
 [.tmp 4,.tmp 5],
 [],
 []⟩
theorem r55_ok : resFun (progU ()) hint live 55 Try.f55 = some r55:=by kernel_rfl
def r56 : RFun :=
⟨.seq (.reg (some [0,1]) [⟨some 2,none,.op true (.box 2 (.tmp 0))⟩,⟨some 3,none,.op true (.box 2 (.tmp 1))⟩,⟨some 4,none,.op true (.new 2 [.int .i64 0,.int .i64 0])⟩,Ac 5 0])
 (.seq (.seq (.reg (some [2,3,4]) [Ld 7 2,Ld 8 3,Ca 9 63 [.tmp 7,.tmp 8] (some (.val (.one (.int .i64)))),As 6 9])
 (.seq (.reg (some [2,3,4,6]) [Mv 10 6,Bc 11 .neq 26 10 .i64 0])
 (.cond (.tmp 11) (.seq (.reg (some [4,6]) [Ro 12 (.build [.int .i64 0,.int .i64 0] []),Mv 13 6,⟨none,none,.op false (.store 2 (.tmp 4) (.tmp 12))⟩,As 5 13])
 .ret)
 .skip)))
 (.seq (.reg (some [2,3,4]) [Ld 14 2,Fa 15 0 3,L1 16 15,Ol 17 (.unOp .neg 2 (.tmp 16)),Fa 18 1 3,L1 19 18,Ro 20 (.build [.int .i64 0,.int .i64 0] [(0,1,(.tmp 17)),(1,1,(.tmp 19))]),Ca 21 71 [.tmp 14,.tmp 20] (some (.tup [.agg [.int .i64,.int .i64],.one (.int .i64)])),Ex 22 21 0,Ex 23 21 1,⟨none,none,.op false (.store 2 (.tmp 4) (.tmp 22))⟩,As 5 23])
 .ret)),
 [.agg 4 2 [.int .i64,.int .i64],.tmp 5],
 [],
 []⟩
theorem r56_ok : resFun (progU ()) hint live 56 Try.f56 = some r56:=by kernel_rfl
def r57 : RFun :=
⟨.seq (.reg (some [0,1]) [⟨some 2,none,.op true (.box 2 (.tmp 0))⟩,⟨some 3,none,.op true (.box 2 (.tmp 1))⟩,⟨some 4,none,.op true (.new 2 [.int .i64 0,.int .i64 0])⟩,Ac 5 0])
 (.seq (.seq (.reg (some [2,3,4]) [Ld 7 2,Ld 8 3,Ca 9 63 [.tmp 7,.tmp 8] (some (.val (.one (.int .i64)))),As 6 9])
 (.seq (.reg (some [2,3,4,6]) [Mv 10 6,Bc 11 .neq 26 10 .i64 0])
 (.cond (.tmp 11) (.seq (.reg (some [4,6]) [Ro 12 (.build [.int .i64 0,.int .i64 0] []),Mv 13 6,⟨none,none,.op false (.store 2 (.tmp 4) (.tmp 12))⟩,As 5 13])
 .ret)
 .skip)))
 (.seq (.reg (some [2,3,4]) [Ld 14 2,Ld 15 3,Ca 16 64 [.tmp 14,.tmp 15] (some (.tup [.agg [.int .i64,.int .i64],.one (.int .i64)])),Ex 17 16 0,Ex 18 16 1,⟨none,none,.op false (.store 2 (.tmp 4) (.tmp 17))⟩,As 5 18])
 .ret)),
 [.agg 4 2 [.int .i64,.int .i64],.tmp 5],
 [],
 []⟩
theorem r57_ok : resFun (progU ()) hint live 57 Try.f57 = some r57:=by kernel_rfl
def r58 : RFun :=
⟨.seq (.reg (some [0,1]) [⟨some 2,none,.op true (.box 2 (.tmp 0))⟩,⟨some 3,none,.op true (.box 2 (.tmp 1))⟩,⟨some 4,none,.op true (.new 2 [.int .i64 0,.int .i64 0])⟩,Ac 5 0])
 (.seq (.seq (.reg (some [2,3,4]) [Ld 7 2,Ld 8 3,Ca 9 63 [.tmp 7,.tmp 8] (some (.val (.one (.int .i64)))),As 6 9])
 (.seq (.reg (some [2,3,4,6]) [Mv 10 6,Bc 11 .neq 26 10 .i64 0])
 (.cond (.tmp 11) (.seq (.reg (some [4,6]) [Ro 12 (.build [.int .i64 0,.int .i64 0] []),Mv 13 6,⟨none,none,.op false (.store 2 (.tmp 4) (.tmp 12))⟩,As 5 13])
 .ret)
 .skip)))
 (.seq (.reg (some [2,3,4]) [Ld 14 2,Ld 15 3,Ca 16 71 [.tmp 14,.tmp 15] (some (.tup [.agg [.int .i64,.int .i64],.one (.int .i64)])),Ex 17 16 0,Ex 18 16 1,⟨none,none,.op false (.store 2 (.tmp 4) (.tmp 17))⟩,As 5 18])
 .ret)),
 [.agg 4 2 [.int .i64,.int .i64],.tmp 5],
 [],
 []⟩
theorem r58_ok : resFun (progU ()) hint live 58 Try.f58 = some r58:=by kernel_rfl
def r59 : RFun :=
⟨.seq (.reg (some [0,1,2]) [⟨some 3,none,.op true (.box 4 (.tmp 0))⟩,⟨some 4,none,.op true (.box 4 (.tmp 1))⟩,⟨some 5,none,.op true (.box 2 (.tmp 2))⟩,⟨some 6,none,.op true (.new 2 [.int .i64 0,.int .i64 0])⟩])
 (.seq (.reg (some [3,4,5,6]) [Fa 20 0 4,Ld 21 20,Ld 22 5,Ca 23 72 [.tmp 21,.tmp 22] (some (.tup [.agg [.int .i64,.int .i64],.one (.int .i64)])),Mv 19 23,Ex 24 19 0,Ex 25 19 1,⟨some 7,none,.op true (.new 2 [.int .i64 0,.int .i64 0])⟩,⟨none,none,.op false (.store 2 (.tmp 7) (.tmp 24))⟩,As 8 25])
 (.seq (.reg (some [3,4,5,6,7]) [Ld 27 5,Fa 28 0 3,Ld 29 28,Ca 30 72 [.tmp 27,.tmp 29] (some (.tup [.agg [.int .i64,.int .i64],.one (.int .i64)])),Mv 26 30,Ex 31 26 0,Ex 32 26 1,⟨some 9,none,.op true (.new 2 [.int .i64 0,.int .i64 0])⟩,⟨none,none,.op false (.store 2 (.tmp 9) (.tmp 31))⟩,As 10 32])
 (.seq (.reg (some [3,4,6,7,9]) [Fa 34 0 4,Ld 35 34,Fa 36 0 3,Ld 37 36,Ca 38 72 [.tmp 35,.tmp 37] (some (.tup [.agg [.int .i64,.int .i64],.one (.int .i64)])),Mv 33 38,Ex 39 33 0,Ex 40 33 1,⟨some 11,none,.op true (.new 2 [.int .i64 0,.int .i64 0])⟩,⟨none,none,.op false (.store 2 (.tmp 11) (.tmp 39))⟩,As 12 40])
 (.seq (.reg (some [3,4,6,7,9,11]) [Ld 42 7,Ld 43 11,Ca 44 45 [.tmp 42,.tmp 43] (some (.tup [.agg [.int .i64,.int .i64],.one (.int .i64)])),Mv 41 44,Ex 45 41 0,Ex 46 41 1,⟨none,none,.op false (.store 2 (.tmp 7) (.tmp 45))⟩])
 (.seq (.reg (some [3,4,6,7,9,11]) [Ld 48 9,Ld 49 11,Ca 50 45 [.tmp 48,.tmp 49] (some (.tup [.agg [.int .i64,.int .i64],.one (.int .i64)])),Mv 47 50,Ex 51 47 0,Ex 52 47 1,⟨none,none,.op false (.store 2 (.tmp 9) (.tmp 51))⟩])
 (.seq (.reg (some [3,4,6,7,9]) [Ld 54 7,Fa 55 2 3,Ld 56 55,Ca 57 67 [.tmp 54,.tmp 56] (some (.tup [.agg [.int .i64,.int .i64],.one (.int .i64)])),Mv 53 57,Ex 58 53 0,Ex 59 53 1,⟨some 13,none,.op true (.new 2 [.int .i64 0,.int .i64 0])⟩,⟨none,none,.op false (.store 2 (.tmp 13) (.tmp 58))⟩,As 14 59])
 (.seq (.reg (some [4,6,9,13]) [Ld 61 9,Fa 62 2 4,Ld 63 62,Ca 64 67 [.tmp 61,.tmp 63] (some (.tup [.agg [.int .i64,.int .i64],.one (.int .i64)])),Mv 60 64,Ex 65 60 0,Ex 66 60 1,⟨some 15,none,.op true (.new 2 [.int .i64 0,.int .i64 0])⟩,⟨none,none,.op false (.store 2 (.tmp 15) (.tmp 65))⟩,As 16 66])
 (.seq (.reg (some [6,13,15]) [Ld 68 13,Ld 69 15,Ca 70 73 [.tmp 68,.tmp 69] (some (.tup [.agg [.int .i64,.int .i64],.one (.int .i64)])),Mv 67 70,Ex 71 67 0,Ex 72 67 1,⟨some 17,none,.op true (.new 2 [.int .i64 0,.int .i64 0])⟩,⟨none,none,.op false (.store 2 (.tmp 17) (.tmp 71))⟩,As 18 72])
 (.seq (.reg (some [6,17]) [Ld 73 17,⟨none,none,.op false (.store 2 (.tmp 6) (.tmp 73))⟩])
 .ret))))))))),
 [.agg 6 2 [.int .i64,.int .i64]],
 [],
 []⟩
theorem r59_ok : resFun (progU ()) hint live 59 Try.f59 = some r59:=by kernel_rfl
def r60 : RFun :=
⟨.seq (.reg (some [0,1]) [Mv 5 0,Ro 6 (.lenS (.tmp 5)),As 4 6])
 (.reg (some [0,1,4]) [Mv 7 0,Mv 8 4,Mv 9 4,Ro 10 (.convI .u64 (.tmp 9)),Ca 11 75 [.tmp 10] (some (.val (.one (.int .i64)))),Mv 12 1,Ca 13 74 [.tmp 7,.const (.int .i64 0),.tmp 8,.tmp 11,.tmp 12] (some (.tup []))]),
 [],
 [],
 []⟩
theorem r60_ok : resFun (progU ()) hint live 60 Try.f60 = some r60:=by kernel_rfl
def r61 : RFun :=
⟨.seq (.reg (some [0]) [Ol 2 (.assign (.const (.slice none 0 0)))])
 (.seq (.seq (.reg (some [0]) [Mv 6 0,Ro 7 (.lenS (.tmp 6)),Bc 8 .lss 3 7 .i64 2])
 (.cond (.tmp 8) (.seq (.reg (some [0]) [Mv 9 0,As 2 9])
 .ret)
 .skip))
 (.seq (.seq (.reg (some [0]) [Ac 3 1])
 (.block 0 (.loop 4 (some [0,3]) (some [0,3]))))
 (.seq (.reg (some [0]) [Mv 60 0,As 2 60])
 .ret))),
 [.tmp 2],
 [(4,⟨some [0,3],some [0,3],.seq (.seq (.reg (some [0,3]) [Mv 10 3,Mv 11 0,Ro 12 (.lenS (.tmp 11)),Bt 13 .lss 3 10 12])
 (.cond (.tmp 13) .skip
 (.exit 0 (some [0]))))
 (.seq (.block 1 (.seq (.draw (some [0,3]) 10 [Dr (Mv 16 0) 0 [2,3,9],Dr (Mv 17 3) 1 [2,3,9],Dr (Ix 18 2 16 17) 2 [3,9],Db (Ld 19 18) 3 18 [9],Dr (Mv 20 0) 4 [7,8,9],Dr (Mv 21 3) 5 [6,7,8,9],Dr (Bc 22 .sub 3 21 .i64 1) 6 [7,8,9],Dr (Ix 23 2 20 22) 7 [8,9],Db (Ld 24 23) 8 23 [9],Dr (Bt 25 .eql 24 19 24) 9 []])
 (.cond (.tmp 25) (.seq (.reg (some [0,3]) [Mv 26 0,Mv 27 3,Ro 28 (.cutS 69 (.tmp 26) (some (.tmp 27)) none none),As 4 28])
 (.seq (.seq (.reg (some [0,3,4]) [Ac 5 1])
 (.block 2 (.loop 9 (some [0,3,4,5]) (some [0,3,4,5]))))
 (.seq (.reg (some [0,3]) [Mv 54 0,Mv 55 3,Ro 56 (.cutS 69 (.tmp 54) (some (.tmp 55)) none none),⟨none,none,.op false (.old (.call ⟨.builtin .clear,#[.tmp 56],#[69]⟩))⟩])
 (.seq (.reg (some [0,3]) [Mv 57 0,Mv 58 3,Ro 59 (.cutS 69 (.tmp 57) none (some (.tmp 58)) none),As 2 59])
 .ret))))
 .skip)))
 (.reg (some [0,3]) [Mv 14 3,Bc 15 .add 3 14 .i64 1,As 3 15]))⟩),(9,⟨some [0,3,4,5],some [0,3,4,5],.seq (.seq (.reg (some [0,3,4,5]) [Mv 29 5,Mv 30 4,Ro 31 (.lenS (.tmp 30)),Bt 32 .lss 3 29 31])
 (.cond (.tmp 32) .skip
 (.exit 2 (some [0,3]))))
 (.seq (.block 3 (.seq (.draw (some [0,3,4,5]) 10 [Dr (Mv 35 4) 0 [2,3,9],Dr (Mv 36 5) 1 [2,3,9],Dr (Ix 37 2 35 36) 2 [3,9],Db (Ld 38 37) 3 37 [9],Dr (Mv 39 4) 4 [7,8,9],Dr (Mv 40 5) 5 [6,7,8,9],Dr (Bc 41 .sub 3 40 .i64 1) 6 [7,8,9],Dr (Ix 42 2 39 41) 7 [8,9],Db (Ld 43 42) 8 42 [9],Dr (Bt 44 .neq 24 38 43) 9 []])
 (.cond (.tmp 44) (.seq (.reg (some [0,3,4,5]) [Mv 45 0,Mv 46 3,Mv 47 4,Mv 48 5,Ix 49 2 47 48,Ld 50 49,Ix 51 2 45 46,⟨none,none,.op false (.store 2 (.tmp 51) (.tmp 50))⟩])
 (.reg (some [0,3,4,5]) [Mv 52 3,Bc 53 .add 3 52 .i64 1,As 3 53]))
 .skip)))
 (.reg (some [0,3,4,5]) [Mv 33 5,Bc 34 .add 3 33 .i64 1,As 5 34]))⟩)],
 []⟩
theorem r61_ok : resFun (progU ()) hint live 61 Try.f61 = some r61:=by kernel_rfl
def r62 : RFun :=
⟨.seq (.reg (some [0,1,2]) [⟨some 6,none,.op true (.new 2 [.int .i64 0,.int .i64 0])⟩,Ac 7 0])
 (.seq (.seq (.reg (some [0,1,2,6]) [Mv 9 1,Bc 10 .gtr 80 9 .u64 1000000000000000000,Mv 11 10,⟨some 12,some (11,false),.op false (.old (.move (.tmp 2)))⟩,⟨some 13,some (11,false),.op false (.old (.binOp .gtr 80 (.tmp 12) (.const (.int .u64 1000000000000000000)) 80))⟩,Ol 14 (.pick (.tmp 11) (.const (.bool true)) (.tmp 13))])
 (.cond (.tmp 14) (.seq (.reg (some [6]) [Ro 15 (.build [.int .i64 0,.int .i64 0] []),⟨none,none,.op false (.store 2 (.tmp 6) (.tmp 15))⟩,Ac 7 16])
 .ret)
 .skip))
 (.seq (.reg (some [0,1,2,6]) [Mv 16 1,Ro 17 (.convI .i64 (.tmp 16)),Mv 18 2,Ro 19 (.convI .i64 (.tmp 18)),Ro 20 (.build [.int .i64 0,.int .i64 0] [(0,1,(.tmp 17)),(1,1,(.tmp 19))]),⟨some 8,none,.op true (.new 2 [.int .i64 0,.int .i64 0])⟩,⟨none,none,.op false (.store 2 (.tmp 8) (.tmp 20))⟩])
 (.seq (.seq (.reg (some [0,6,8]) [Mv 21 0])
 (.cond (.tmp 21) (.reg (some [6,8]) [Fa 22 0 8,L1 23 22,Ol 24 (.unOp .neg 2 (.tmp 23)),Fa 25 0 8,⟨none,none,.op false (.store 1 (.tmp 25) (.tmp 24))⟩])
 .skip))
 (.seq (.reg (some [6,8]) [Ld 26 8,⟨none,none,.op false (.store 2 (.tmp 6) (.tmp 26))⟩,Ac 7 0])
 .ret)))),
 [.agg 6 2 [.int .i64,.int .i64],.tmp 7],
 [],
 []⟩
theorem r62_ok : resFun (progU ()) hint live 62 Try.f62 = some r62:=by kernel_rfl
def r63 : RFun :=
⟨.seq (.reg (some [0,1]) [⟨some 2,none,.op true (.box 2 (.tmp 0))⟩,⟨some 3,none,.op true (.box 2 (.tmp 1))⟩,Ac 4 0])
 (.seq (.seq (.reg (some [2,3]) [Ld 6 2,Ca 7 32 [.tmp 6] (some (.val (.one (.int .i64)))),As 5 7])
 (.seq (.reg (some [3,5]) [Mv 8 5,Bc 9 .neq 26 8 .i64 0])
 (.cond (.tmp 9) (.seq (.reg (some [5]) [Mv 10 5,As 4 10])
 .ret)
 .skip)))
 (.seq (.reg (some [3]) [Ld 11 3,Ca 12 32 [.tmp 11] (some (.val (.one (.int .i64)))),As 4 12])
 .ret)),
 [.tmp 4],
 [],
 []⟩
theorem r63_ok : resFun (progU ()) hint live 63 Try.f63 = some r63:=by kernel_rfl
def r64 : RFun :=
⟨.seq (.reg (some [0,1]) [⟨some 2,none,.op true (.box 2 (.tmp 0))⟩,⟨some 3,none,.op true (.box 2 (.tmp 1))⟩,⟨some 4,none,.op true (.new 2 [.int .i64 0,.int .i64 0])⟩,Ac 5 0])
 (.seq (.draw (some [2,3,4]) 16 [Dr (Fa 16 0 2) 0 [1,2,5,8,11,12,13,14,15],Db (L1 17 16) 1 16 [2,5,8,11,12,13,14,15],Dr (Fa 19 1 2) 3 [4,5,8,11,12,13,14,15],Db (L1 20 19) 4 19 [5,8,11,12,13,14,15],Dr (Fa 22 0 3) 6 [7,8,11,12,13,14,15],Db (L1 23 22) 7 22 [8,11,12,13,14,15],Dr (Fa 25 1 3) 9 [10,11,12,13,14,15],Db (L1 26 25) 10 25 [11,12,13,14,15],⟨Ca 18 54 [.tmp 17] (some (.val (.one (.int .u64)))),2,.all,[5,8,11,12,13,14,15],false,false⟩,⟨Ca 21 54 [.tmp 20] (some (.val (.one (.int .u64)))),5,.all,[8,11,12,13,14,15],false,false⟩,⟨Ca 24 54 [.tmp 23] (some (.val (.one (.int .u64)))),8,.all,[11,12,13,14,15],false,false⟩,⟨Ca 27 54 [.tmp 26] (some (.val (.one (.int .u64)))),11,.all,[12,13,14,15],false,false⟩,Dr (As 6 18) 12 [13,14,15],Dr (As 7 21) 13 [14,15],Dr (As 8 24) 14 [15],Dr (As 9 27) 15 []])
 (.seq (.reg (some [2,3,4,6,7,8,9]) [Mv 28 6,Mv 29 9,Ca 30 53 [.tmp 28,.tmp 29] (some (.val (.one (.int .u64)))),Mv 31 8,Mv 32 7,Ca 33 53 [.tmp 31,.tmp 32] (some (.val (.one (.int .u64)))),As 10 30,As 11 33])
 (.seq (.draw (some [2,3,4,6,7,8,9,10,11]) 12 [Dr (Mv 35 6) 0 [2,6,7,8,9,10,11],Dr (Mv 36 10) 1 [2,6,7,8,9,10,11],Dr (Bt 37 .quo 80 35 36) 2 [6,7,8,9,10,11],Dr (Mv 38 8) 3 [5,6,7,8,9,10,11],Dr (Mv 39 11) 4 [5,6,7,8,9,10,11],Dr (Bt 40 .quo 80 38 39) 5 [6,7,8,9,10,11],⟨Ca 41 76 [.tmp 37,.tmp 40] (some (.tup [.one (.int .u64),.one (.int .u64)])),6,.all,[7,8,9,10,11],false,false⟩,Dr (Mv 34 41) 7 [8,9,10,11],Dr (Ex 42 34 0) 8 [10,11],Dr (Ex 43 34 1) 9 [11],Dr (As 12 42) 10 [11],Dr (As 13 43) 11 []])
 (.seq (.draw (some [2,3,4,7,9,10,11,12,13]) 12 [Dr (Mv 45 7) 0 [2,6,7,8,9,10,11],Dr (Mv 46 11) 1 [2,6,7,8,9,10,11],Dr (Bt 47 .quo 80 45 46) 2 [6,7,8,9,10,11],Dr (Mv 48 9) 3 [5,6,7,8,9,10,11],Dr (Mv 49 10) 4 [5,6,7,8,9,10,11],Dr (Bt 50 .quo 80 48 49) 5 [6,7,8,9,10,11],⟨Ca 51 76 [.tmp 47,.tmp 50] (some (.tup [.one (.int .u64),.one (.int .u64)])),6,.all,[7,8,9,10,11],false,false⟩,Dr (Mv 44 51) 7 [8,9,10,11],Dr (Ex 52 44 0) 8 [10,11],Dr (Ex 53 44 1) 9 [11],Dr (As 14 52) 10 [11],Dr (As 15 53) 11 []])
 (.seq (.seq (.reg (some [2,3,4,12,13,14,15]) [Mv 54 12,Bc 55 .neq 80 54 .u64 0,Mv 56 55,⟨some 57,some (56,false),.op false (.old (.move (.tmp 14)))⟩,⟨some 58,some (56,false),.op false (.old (.binOp .neq 80 (.tmp 57) (.const (.int .u64 0)) 80))⟩,Ol 59 (.pick (.tmp 56) (.const (.bool true)) (.tmp 58))])
 (.cond (.tmp 59) (.seq (.reg (some [4]) [Ro 60 (.build [.int .i64 0,.int .i64 0] []),⟨none,none,.op false (.store 2 (.tmp 4) (.tmp 60))⟩,Ac 5 16])
 .ret)
 .skip))
 (.seq (.reg (some [2,3,4,13,15]) [Fa 61 0 2,L1 62 61,Bc 63 .lss 2 62 .i64 0,Fa 64 0 3,L1 65 64,Bc 66 .lss 2 65 .i64 0,Bt 67 .neq 4 63 66,Mv 68 13,Mv 69 15,Ca 70 62 [.tmp 67,.tmp 68,.tmp 69] (some (.tup [.agg [.int .i64,.int .i64],.one (.int .i64)])),Ex 71 70 0,Ex 72 70 1,⟨none,none,.op false (.store 2 (.tmp 4) (.tmp 71))⟩,As 5 72])
 .ret)))))),
 [.agg 4 2 [.int .i64,.int .i64],.tmp 5],
 [],
 []⟩
theorem r64_ok : resFun (progU ()) hint live 64 Try.f64 = some r64:=by kernel_rfl
def r65 : RFun :=
⟨.seq (.reg (some [0]) [Ol 2 (.assign (.const (.bool false)))])
 (.seq (.reg (some [0]) [Mv 3 0,Bc 4 .rem 3 3 .i64 2,Bc 5 .eql 3 4 .i64 0,As 2 5])
 .ret),
 [.tmp 2],
 [],
 []⟩
theorem r65_ok : resFun (progU ()) hint live 65 Try.f65 = some r65:=by kernel_rfl
def r66 : RFun :=
⟨.seq (.reg (some [0,1]) [⟨some 2,none,.op true (.box 2 (.tmp 0))⟩,⟨some 3,none,.op true (.box 2 (.tmp 1))⟩,Ac 4 0])
 (.seq (.seq (.reg (some [2,3]) [Ld 5 2,Ca 6 28 [.tmp 5] (some (.val (.one (.int .i64)))),Bc 7 .neq 3 6 .i64 0])
 (.cond (.tmp 7) (.seq (.reg (some [2]) [Ld 8 2,Ca 9 28 [.tmp 8] (some (.val (.one (.int .i64)))),As 4 9])
 .ret)
 .skip))
 (.seq (.reg (some [3]) [Ld 10 3,Ca 11 28 [.tmp 10] (some (.val (.one (.int .i64)))),As 4 11])
 .ret)),
 [.tmp 4],
 [],
 []⟩
theorem r66_ok : resFun (progU ()) hint live 66 Try.f66 = some r66:=by kernel_rfl
def r67 : RFun :=
⟨.seq (.reg (some [0,1]) [⟨some 2,none,.op true (.box 2 (.tmp 0))⟩,⟨some 3,none,.op true (.box 2 (.tmp 1))⟩,⟨some 4,none,.op true (.new 2 [.int .i64 0,.int .i64 0])⟩,Ac 5 0])
 (.seq (.seq (.reg (some [2,3,4]) [Ld 8 2,Ld 9 3,Ca 10 66 [.tmp 8,.tmp 9] (some (.val (.one (.int .i64)))),Bc 11 .neq 3 10 .i64 0])
 (.cond (.tmp 11) (.seq (.reg (some [2,3,4]) [Ro 12 (.build [.int .i64 0,.int .i64 0] []),Ld 13 2,Ld 14 3,Ca 15 66 [.tmp 13,.tmp 14] (some (.val (.one (.int .i64)))),⟨none,none,.op false (.store 2 (.tmp 4) (.tmp 12))⟩,As 5 15])
 .ret)
 .skip))
 (.seq (.draw (some [2,3,4]) 16 [Dr (Fa 16 0 2) 0 [1,2,6,9,13,14,15],Db (L1 17 16) 1 16 [2,6,9,13,14,15],Dr (Fa 19 1 3) 3 [4,5,6,9,13,14,15],Db (L1 20 19) 4 19 [5,6,9,13,14,15],⟨Ro 21 (.convI .u64 (.tmp 20)),5,.cvt (.tmp 20),[6,9,13,14,15],false,true⟩,Dr (Fa 23 0 3) 7 [8,9,13,14,15],Db (L1 24 23) 8 23 [9,13,14,15],Dr (Fa 26 1 2) 10 [11,12,13,14,15],Db (L1 27 26) 11 26 [12,13,14,15],⟨Ro 28 (.convI .u64 (.tmp 27)),12,.cvt (.tmp 27),[13,14,15],false,true⟩,⟨Ca 18 48 [.tmp 17] (some (.val (.one (.int .u64)))),2,.all,[6,9,13,14,15],false,false⟩,⟨Ca 22 47 [.tmp 18,.tmp 21] (some (.val (.one (.int .u64)))),6,.all,[9,13,14,15],false,false⟩,⟨Ca 25 48 [.tmp 24] (some (.val (.one (.int .u64)))),9,.all,[13,14,15],false,false⟩,⟨Ca 29 47 [.tmp 25,.tmp 28] (some (.val (.one (.int .u64)))),13,.all,[14,15],false,false⟩,Dr (As 6 22) 14 [15],Dr (As 7 29) 15 []])
 (.seq (.draw (some [2,3,4,6,7]) 34 [Dr (Fa 30 0 2) 0 [1,2,6,29,30,31,32,33],Db (L1 31 30) 1 30 [2,6,29,30,31,32,33],Dr (Bc 32 .lss 2 31 .i64 0) 2 [6,29,30,31,32,33],Dr (Fa 33 0 3) 3 [4,5,6,29,30,31,32,33],Db (L1 34 33) 4 33 [5,6,29,30,31,32,33],Dr (Bc 35 .lss 2 34 .i64 0) 5 [6,29,30,31,32,33],Dr (Bt 36 .neq 4 32 35) 6 [29,30,31,32,33],Dr (Fa 37 0 2) 7 [8,9,11,14,16,17,28,29,30,31,32,33],Db (L1 38 37) 8 37 [9,11,14,16,17,28,29,30,31,32,33],Dr (Mv 40 6) 10 [11,17,28,29,30,31,32,33],Dr (Fa 42 0 3) 12 [13,14,16,17,28,29,30,31,32,33],Db (L1 43 42) 13 42 [14,16,17,28,29,30,31,32,33],Dr (Mv 45 7) 15 [16,17,28,29,30,31,32,33],Dr (Fa 48 1 2) 18 [19,20,22,28,29,30,31,32,33],Db (L1 49 48) 19 48 [20,22,28,29,30,31,32,33],⟨Ro 50 (.convI .u64 (.tmp 49)),20,.cvt (.tmp 49),[22,28,29,30,31,32,33],false,true⟩,Dr (Mv 51 7) 21 [22,28,29,30,31,32,33],Dr (Bt 52 .quo 80 50 51) 22 [28,29,30,31,32,33],Dr (Fa 53 1 3) 23 [24,25,27,28,29,30,31,32,33],Db (L1 54 53) 24 53 [25,27,28,29,30,31,32,33],⟨Ro 55 (.convI .u64 (.tmp 54)),25,.cvt (.tmp 54),[27,28,29,30,31,32,33],false,true⟩,Dr (Mv 56 6) 26 [27,28,29,30,31,32,33],Dr (Bt 57 .quo 80 55 56) 27 [28,29,30,31,32,33],⟨Ca 39 48 [.tmp 38] (some (.val (.one (.int .u64)))),9,.all,[11,14,16,17,28,29,30,31,32,33],false,false⟩,Dr (Bt 41 .quo 80 39 40) 11 [17,28,29,30,31,32,33],⟨Ca 44 48 [.tmp 43] (some (.val (.one (.int .u64)))),14,.all,[16,17,28,29,30,31,32,33],false,false⟩,Dr (Bt 46 .quo 80 44 45) 16 [17,28,29,30,31,32,33],⟨Ca 47 77 [.tmp 41,.tmp 46] (some (.val (.agg [.int .u64,.int .u64,.int .u64,.int .u64]))),17,.all,[28,29,30,31,32,33],false,false⟩,⟨Ca 58 77 [.tmp 52,.tmp 57] (some (.val (.agg [.int .u64,.int .u64,.int .u64,.int .u64]))),28,.all,[29,30,31,32,33],false,false⟩,⟨Ca 59 51 [.tmp 36,.tmp 47,.tmp 58] (some (.tup [.agg [.int .i64,.int .i64],.one (.int .i64)])),29,.all,[30,31,32,33],false,false⟩,Dr (Ex 60 59 0) 30 [32,33],Dr (Ex 61 59 1) 31 [32,33],⟨⟨none,none,.op false (.store 2 (.tmp 4) (.tmp 60))⟩,32,.blk (.tmp 4),[33],true,true⟩,Dr (As 5 61) 33 []])
 .ret))),
 [.agg 4 2 [.int .i64,.int .i64],.tmp 5],
 [],
 []⟩
theorem r67_ok : resFun (progU ()) hint live 67 Try.f67 = some r67:=by kernel_rfl
def r68 : RFun :=
⟨.seq (.reg (some [0,1]) [⟨some 2,none,.op true (.box 2 (.tmp 0))⟩,⟨some 3,none,.op true (.box 2 (.tmp 1))⟩,Ol 4 (.assign (.const (.bool false)))])
 (.seq (.seq (.reg (some [2,3]) [Fa 7 0 2,L1 8 7,Bc 9 .lss 2 8 .i64 0,Fa 10 0 3,L1 11 10,Bc 12 .lss 2 11 .i64 0,Bt 13 .neq 4 9 12])
 (.cond (.tmp 13) (.seq (.reg (some [2]) [Fa 14 0 2,L1 15 14,Bc 16 .lss 2 15 .i64 0,As 4 16])
 .ret)
 .skip))
 (.seq (.draw (some [2,3]) 18 [Dr (Fa 17 0 2) 0 [1,2,6,9,13,16,17],Db (L1 18 17) 1 17 [2,6,9,13,16,17],Dr (Fa 20 1 3) 3 [4,5,6,9,13,16,17],Db (L1 21 20) 4 20 [5,6,9,13,16,17],⟨Ro 22 (.convI .u64 (.tmp 21)),5,.cvt (.tmp 21),[6,9,13,16,17],false,true⟩,Dr (Fa 24 0 3) 7 [8,9,13,16,17],Db (L1 25 24) 8 24 [9,13,16,17],Dr (Fa 27 1 2) 10 [11,12,13,16,17],Db (L1 28 27) 11 27 [12,13,16,17],⟨Ro 29 (.convI .u64 (.tmp 28)),12,.cvt (.tmp 28),[13,16,17],false,true⟩,⟨⟨some 5,none,.op true (.new 4 [.int .u64 0,.int .u64 0,.int .u64 0,.int .u64 0])⟩,14,.new true,[16,17],false,true⟩,⟨⟨some 6,none,.op true (.new 4 [.int .u64 0,.int .u64 0,.int .u64 0,.int .u64 0])⟩,15,.new true,[16,17],false,true⟩,⟨Ca 19 48 [.tmp 18] (some (.val (.one (.int .u64)))),2,.all,[6,9,13,16,17],false,false⟩,⟨Ca 23 77 [.tmp 19,.tmp 22] (some (.val (.agg [.int .u64,.int .u64,.int .u64,.int .u64]))),6,.all,[9,13,16,17],false,false⟩,⟨Ca 26 48 [.tmp 25] (some (.val (.one (.int .u64)))),9,.all,[13,16,17],false,false⟩,⟨Ca 30 77 [.tmp 26,.tmp 29] (some (.val (.agg [.int .u64,.int .u64,.int .u64,.int .u64]))),13,.all,[16,17],false,false⟩,⟨⟨none,none,.op false (.store 4 (.tmp 5) (.tmp 23))⟩,16,.blk (.tmp 5),[17],true,true⟩,⟨⟨none,none,.op false (.store 4 (.tmp 6) (.tmp 30))⟩,17,.blk (.tmp 6),[],true,true⟩])
 (.seq (.seq (.reg (some [2,5,6]) [Fa 31 0 2,L1 32 31,Bc 33 .lss 2 32 .i64 0])
 (.cond (.tmp 33) (.seq (.reg (some [5,6]) [Ro 34 (.load 4 [.int .u64,.int .u64,.int .u64,.int .u64] (.tmp 6)),Ro 35 (.load 4 [.int .u64,.int .u64,.int .u64,.int .u64] (.tmp 5)),Ca 36 78 [.tmp 34,.tmp 35] (some (.val (.one .bool))),As 4 36])
 .ret)
 .skip))
 (.seq (.reg (some [5,6]) [Ro 37 (.load 4 [.int .u64,.int .u64,.int .u64,.int .u64] (.tmp 5)),Ro 38 (.load 4 [.int .u64,.int .u64,.int .u64,.int .u64] (.tmp 6)),Ca 39 78 [.tmp 37,.tmp 38] (some (.val (.one .bool))),As 4 39])
 .ret)))),
 [.tmp 4],
 [],
 []⟩
theorem r68_ok : resFun (progU ()) hint live 68 Try.f68 = some r68:=by kernel_rfl
def r69 : RFun :=
⟨.seq (.reg (some [0]) [Ro 1 (.box 4 (.tmp 0)),Ac 2 0,Ol 3 (.assign (.const (.bool false)))])
 (.seq (.reg (some [1]) [Fa 5 0 1,Ro 6 (.ixA 4 1 (.tmp 5) (.const (.int .i64 1))),Ro 7 (.load1 (.int .u64) (.tmp 6)),Ol 8 (.binOp .shl 80 (.tmp 7) (.const (.int .u64 32)) 100),Fa 9 0 1,Ro 10 (.ixA 4 1 (.tmp 9) (.const (.int .i64 0))),Ro 11 (.load1 (.int .u64) (.tmp 10)),Bt 12 .or 80 8 11,As 4 12])
 (.seq (.reg (some [1,4]) [Mv 13 4,Bc 14 .and 80 13 .u64 9223372036854775807,Ro 15 (.convI .i64 (.tmp 14)),Fa 16 0 1,Ro 17 (.ixA 4 1 (.tmp 16) (.const (.int .i64 2))),Ro 18 (.load1 (.int .u64) (.tmp 17)),Bc 19 .eql 80 18 .u64 0,Mv 20 19,⟨some 21,some (20,true),.op false (.fieldAddr 0 (.tmp 1))⟩,⟨some 22,some (20,true),.op false (.ixA 4 1 (.tmp 21) (.const (.int .i64 3)))⟩,⟨some 23,some (20,true),.op false (.load1 (.int .u64) (.tmp 22))⟩,⟨some 24,some (20,true),.op false (.old (.binOp .eql 80 (.tmp 23) (.const (.int .u64 0)) 80))⟩,Ol 25 (.pick (.tmp 20) (.tmp 24) (.const (.bool false))),Mv 26 25,⟨some 27,some (26,true),.op false (.old (.move (.tmp 4)))⟩,⟨some 28,some (26,true),.op false (.old (.binOp .leq 80 (.tmp 27) (.const (.int .u64 1000000000000000000)) 80))⟩,Ol 29 (.pick (.tmp 26) (.tmp 28) (.const (.bool false))),As 2 15,As 3 29])
 .ret)),
 [.tmp 2,.tmp 3],
 [],
 []⟩
theorem r69_ok : resFun (progU ()) hint live 69 Try.f69 = some r69:=by kernel_rfl
def r70 : RFun :=
⟨.seq (.reg (some [0,1]) [⟨some 2,none,.op true (.box 2 (.tmp 0))⟩,⟨some 3,none,.op true (.box 2 (.tmp 1))⟩,Ac 4 0])
 (.seq (.block 0 (.seq (.reg (some [2,3]) [Fa 7 0 2,L1 8 7,Bc 9 .lss 2 8 .i64 0,Mv 10 9,⟨some 11,some (10,true),.op false (.fieldAddr 0 (.tmp 3))⟩,⟨some 12,some (10,true),.op false (.load1 (.int .i64) (.tmp 11))⟩,⟨some 13,some (10,true),.op false (.old (.binOp .geq 2 (.tmp 12) (.const (.int .i64 0)) 2))⟩,Ol 14 (.pick (.tmp 10) (.tmp 13) (.const (.bool false))),As 6 14])
 (.cond (.tmp 6) (.seq (.reg (some []) [Ol 4 (.assign (.const (.int .i64 (-1))))])
 .ret)
 (.seq (.reg (some [2,3]) [Fa 16 0 2,L1 17 16,Bc 18 .geq 2 17 .i64 0,Mv 19 18,⟨some 20,some (19,true),.op false (.fieldAddr 0 (.tmp 3))⟩,⟨some 21,some (19,true),.op false (.load1 (.int .i64) (.tmp 20))⟩,⟨some 22,some (19,true),.op false (.old (.binOp .lss 2 (.tmp 21) (.const (.int .i64 0)) 2))⟩,Ol 23 (.pick (.tmp 19) (.tmp 22) (.const (.bool false))),As 15 23])
 (.cond (.tmp 15) (.seq (.reg (some []) [Ac 4 1])
 .ret)
 .skip)))))
 (.seq (.draw (some [2,3]) 14 [Dr (Fa 24 0 2) 0 [1,2,5,8,11,12,13],Db (L1 25 24) 1 24 [2,5,8,11,12,13],Dr (Fa 27 1 3) 3 [4,5,8,11,12,13],Db (L1 28 27) 4 27 [5,8,11,12,13],Dr (Fa 30 0 3) 6 [7,8,11,12,13],Db (L1 31 30) 7 30 [8,11,12,13],Dr (Fa 33 1 2) 9 [10,11,12,13],Db (L1 34 33) 10 33 [11,12,13],⟨Ca 26 54 [.tmp 25] (some (.val (.one (.int .u64)))),2,.all,[5,8,11,12,13],false,false⟩,⟨Ca 29 54 [.tmp 28] (some (.val (.one (.int .u64)))),5,.all,[8,11,12,13],false,false⟩,⟨Ca 32 54 [.tmp 31] (some (.val (.one (.int .u64)))),8,.all,[11,12,13],false,false⟩,⟨Ca 35 54 [.tmp 34] (some (.val (.one (.int .u64)))),11,.all,[12,13],false,false⟩,⟨Ca 36 79 [.tmp 26,.tmp 29,.tmp 32,.tmp 35] (some (.val (.one (.int .i64)))),12,.all,[13],false,false⟩,Dr (As 5 36) 13 []])
 (.seq (.seq (.reg (some [2,5]) [Fa 37 0 2,L1 38 37,Bc 39 .lss 2 38 .i64 0])
 (.cond (.tmp 39) (.seq (.reg (some [5]) [Mv 40 5,Ol 41 (.unOp .neg 3 (.tmp 40)),As 4 41])
 .ret)
 .skip))
 (.seq (.reg (some [5]) [Mv 42 5,As 4 42])
 .ret)))),
 [.tmp 4],
 [],
 []⟩
theorem r70_ok : resFun (progU ()) hint live 70 Try.f70 = some r70:=by kernel_rfl
def r71 : RFun :=
⟨.seq (.reg (some [0,1]) [⟨some 2,none,.op true (.box 2 (.tmp 0))⟩,⟨some 3,none,.op true (.box 2 (.tmp 1))⟩,⟨some 4,none,.op true (.new 2 [.int .i64 0,.int .i64 0])⟩,Ac 5 0])
 (.seq (.draw (some [2,3,4]) 8 [Dr (Fa 22 1 2) 0 [1,2,5,6,7],Db (L1 23 22) 1 22 [2,5,6,7],Dr (Fa 25 1 3) 3 [4,5,6,7],Db (L1 26 25) 4 25 [5,6,7],⟨Ca 24 54 [.tmp 23] (some (.val (.one (.int .u64)))),2,.all,[5,6,7],false,false⟩,⟨Ca 27 54 [.tmp 26] (some (.val (.one (.int .u64)))),5,.all,[6,7],false,false⟩,Dr (As 6 24) 6 [7],Dr (As 7 27) 7 []])
 (.seq (.reg (some [2,3,4,6,7]) [Mv 28 6,Mv 29 7,Ca 30 53 [.tmp 28,.tmp 29] (some (.val (.one (.int .u64)))),As 8 30])
 (.seq (.draw (some [2,3,4,6,7,8]) 12 [Dr (Fa 32 0 2) 0 [1,2,6,7,8,9,10,11],Db (L1 33 32) 1 32 [2,6,7,8,9,10,11],Dr (Mv 35 7) 3 [5,6,7,8,9,10,11],Dr (Mv 36 8) 4 [5,6,7,8,9,10,11],Dr (Bt 37 .quo 80 35 36) 5 [6,7,8,9,10,11],⟨Ca 34 54 [.tmp 33] (some (.val (.one (.int .u64)))),2,.all,[6,7,8,9,10,11],false,false⟩,⟨Ca 38 76 [.tmp 34,.tmp 37] (some (.tup [.one (.int .u64),.one (.int .u64)])),6,.all,[7,8,9,10,11],false,false⟩,Dr (Mv 31 38) 7 [8,9,10,11],Dr (Ex 39 31 0) 8 [10,11],Dr (Ex 40 31 1) 9 [11],Dr (As 9 39) 10 [11],Dr (As 10 40) 11 []])
 (.seq (.draw (some [2,3,4,6,7,8,9,10]) 12 [Dr (Fa 42 0 3) 0 [1,2,6,7,8,9,10,11],Db (L1 43 42) 1 42 [2,6,7,8,9,10,11],Dr (Mv 45 6) 3 [5,6,7,8,9,10,11],Dr (Mv 46 8) 4 [5,6,7,8,9,10,11],Dr (Bt 47 .quo 80 45 46) 5 [6,7,8,9,10,11],⟨Ca 44 54 [.tmp 43] (some (.val (.one (.int .u64)))),2,.all,[6,7,8,9,10,11],false,false⟩,⟨Ca 48 76 [.tmp 44,.tmp 47] (some (.tup [.one (.int .u64),.one (.int .u64)])),6,.all,[7,8,9,10,11],false,false⟩,Dr (Mv 41 48) 7 [8,9,10,11],Dr (Ex 49 41 0) 8 [10,11],Dr (Ex 50 41 1) 9 [11],Dr (As 11 49) 10 [11],Dr (As 12 50) 11 []])
 (.seq (.reg (some [2,3,4,6,7,8,9,10,11,12]) [Fa 51 0 2,L1 52 51,Bc 53 .lss 2 52 .i64 0,As 13 53])
 (.seq (.reg (some [2,3,4,6,7,8,9,10,11,12,13]) [Ol 14 (.assign (.const (.int .u64 0))),Ol 15 (.assign (.const (.int .u64 0))),Ol 16 (.assign (.const (.int .u64 0)))])
 (.seq (.block 0 (.seq (.reg (some [2,3,4,6,7,8,9,10,11,12,13]) [Fa 71 0 2,L1 72 71,Bc 73 .lss 2 72 .i64 0,Fa 74 0 3,L1 75 74,Bc 76 .lss 2 75 .i64 0,Bt 77 .eql 4 73 76,As 70 77])
 (.cond (.tmp 70) (.seq (.reg (some [4,6,7,8,9,10,11,12,13]) [Mv 79 10,Mv 80 12,Ca 81 80 [.tmp 79,.tmp 80,.const (.int .u64 0)] (some (.tup [.one (.int .u64),.one (.int .u64)])),Mv 78 81,Ex 82 78 0,Ex 83 78 1,As 15 82,As 16 83])
 (.reg (some [4,6,7,8,9,11,13,15,16]) [Mv 85 9,Mv 86 11,Mv 87 16,Ca 88 80 [.tmp 85,.tmp 86,.tmp 87] (some (.tup [.one (.int .u64),.one (.int .u64)])),Mv 84 88,Ex 89 84 0,Ex 90 84 1,As 14 89]))
 (.seq (.reg (some [3,4,6,7,8,9,10,11,12,13]) [Mv 92 9,Mv 93 10,Mv 94 11,Mv 95 12,Ca 96 81 [.tmp 92,.tmp 93,.tmp 94,.tmp 95] (some (.val (.one (.int .i64)))),Bc 97 .geq 3 96 .i64 0,As 91 97])
 (.cond (.tmp 91) (.seq (.reg (some [4,6,7,8,9,10,11,12,13]) [Mv 99 10,Mv 100 12,Ca 101 82 [.tmp 99,.tmp 100,.const (.int .u64 0)] (some (.tup [.one (.int .u64),.one (.int .u64)])),Mv 98 101,Ex 102 98 0,Ex 103 98 1,As 15 102,As 16 103])
 (.reg (some [4,6,7,8,9,11,13,15,16]) [Mv 105 9,Mv 106 11,Mv 107 16,Ca 108 82 [.tmp 105,.tmp 106,.tmp 107] (some (.tup [.one (.int .u64),.one (.int .u64)])),Mv 104 108,Ex 109 104 0,Ex 110 104 1,As 14 109]))
 (.seq (.reg (some [3,4,6,7,8,9,10,11,12]) [Fa 54 0 3,L1 55 54,Bc 56 .lss 2 55 .i64 0,As 13 56])
 (.seq (.reg (some [4,6,7,8,9,10,11,12,13]) [Mv 58 12,Mv 59 10,Ca 60 82 [.tmp 58,.tmp 59,.const (.int .u64 0)] (some (.tup [.one (.int .u64),.one (.int .u64)])),Mv 57 60,Ex 61 57 0,Ex 62 57 1,As 15 61,As 16 62])
 (.reg (some [4,6,7,8,9,11,13,15,16]) [Mv 64 11,Mv 65 9,Mv 66 16,Ca 67 82 [.tmp 64,.tmp 65,.tmp 66] (some (.tup [.one (.int .u64),.one (.int .u64)])),Mv 63 67,Ex 68 63 0,Ex 69 63 1,As 14 68]))))))))
 (.seq (.reg (some [4,6,7,8,13,14,15]) [Mv 111 8,Mv 112 14,Mv 113 15,Mv 114 8,Ca 115 83 [.tmp 112,.tmp 113,.tmp 114] (some (.val (.one (.int .u64)))),Ca 116 53 [.tmp 111,.tmp 115] (some (.val (.one (.int .u64)))),As 17 116])
 (.seq (.seq (.reg (some [4,6,7,8,13,14,15,17]) [Mv 117 14,Mv 118 17,Bt 119 .geq 80 117 118])
 (.cond (.tmp 119) (.seq (.reg (some [4]) [Ro 120 (.build [.int .i64 0,.int .i64 0] []),⟨none,none,.op false (.store 2 (.tmp 4) (.tmp 120))⟩,Ac 5 16])
 .ret)
 .skip))
 (.seq (.reg (some [4,6,7,8,13,14,15,17]) [Mv 122 14,Mv 123 15,Mv 124 17,Ca 125 84 [.tmp 122,.tmp 123,.tmp 124] (some (.tup [.one (.int .u64),.one (.int .u64)])),Mv 121 125,Ex 126 121 0,Ex 127 121 1,As 18 126,As 19 127])
 (.seq (.draw (some [4,6,7,8,13,17,18]) 12 [Dr (Mv 129 6) 0 [2,6,7,8,9,10,11],Dr (Mv 130 8) 1 [2,6,7,8,9,10,11],Dr (Bt 131 .quo 80 129 130) 2 [6,7,8,9,10,11],Dr (Mv 132 7) 3 [5,6,7,8,9,10,11],Dr (Mv 133 17) 4 [5,6,7,8,9,10,11],Dr (Bt 134 .quo 80 132 133) 5 [6,7,8,9,10,11],⟨Ca 135 76 [.tmp 131,.tmp 134] (some (.tup [.one (.int .u64),.one (.int .u64)])),6,.all,[7,8,9,10,11],false,false⟩,Dr (Mv 128 135) 7 [8,9,10,11],Dr (Ex 136 128 0) 8 [10,11],Dr (Ex 137 128 1) 9 [11],Dr (As 20 136) 10 [11],Dr (As 21 137) 11 []])
 (.seq (.seq (.reg (some [4,13,18,20,21]) [Mv 138 20,Bc 139 .neq 80 138 .u64 0])
 (.cond (.tmp 139) (.seq (.reg (some [4]) [Ro 140 (.build [.int .i64 0,.int .i64 0] []),⟨none,none,.op false (.store 2 (.tmp 4) (.tmp 140))⟩,Ac 5 16])
 .ret)
 .skip))
 (.seq (.reg (some [4,13,18,21]) [Mv 141 13,Mv 142 18,Mv 143 21,Ca 144 62 [.tmp 141,.tmp 142,.tmp 143] (some (.tup [.agg [.int .i64,.int .i64],.one (.int .i64)])),Ex 145 144 0,Ex 146 144 1,⟨none,none,.op false (.store 2 (.tmp 4) (.tmp 145))⟩,As 5 146])
 .ret))))))))))))),
 [.agg 4 2 [.int .i64,.int .i64],.tmp 5],
 [],
 []⟩
theorem r71_ok : resFun (progU ()) hint live 71 Try.f71 = some r71:=by kernel_rfl
def r72 : RFun :=
⟨.seq (.reg (some [0,1]) [⟨some 2,none,.op true (.box 2 (.tmp 0))⟩,⟨some 3,none,.op true (.box 2 (.tmp 1))⟩,⟨some 4,none,.op true (.new 2 [.int .i64 0,.int .i64 0])⟩,Ac 5 0])
 (.seq (.seq (.reg (some [2,3,4]) [Ld 6 2,Ld 7 3,Ca 8 66 [.tmp 6,.tmp 7] (some (.val (.one (.int .i64)))),Bc 9 .neq 3 8 .i64 0])
 (.cond (.tmp 9) (.seq (.reg (some [2,3,4]) [Ro 10 (.build [.int .i64 0,.int .i64 0] []),Ld 11 2,Ld 12 3,Ca 13 66 [.tmp 11,.tmp 12] (some (.val (.one (.int .i64)))),⟨none,none,.op false (.store 2 (.tmp 4) (.tmp 10))⟩,As 5 13])
 .ret)
 .skip))
 (.seq (.draw (some [2,3,4]) 8 [Db (Ld 14 2) 0 2 [3,4,5,6,7],Db (Ld 15 3) 1 3 [2,3,4,5,6,7],⟨Ca 16 85 [.tmp 15] (some (.val (.agg [.int .i64,.int .i64]))),2,.all,[3,4,5,6,7],false,false⟩,⟨Ca 17 73 [.tmp 14,.tmp 16] (some (.tup [.agg [.int .i64,.int .i64],.one (.int .i64)])),3,.all,[4,5,6,7],false,false⟩,Dr (Ex 18 17 0) 4 [6,7],Dr (Ex 19 17 1) 5 [6,7],⟨⟨none,none,.op false (.store 2 (.tmp 4) (.tmp 18))⟩,6,.blk (.tmp 4),[7],true,true⟩,Dr (As 5 19) 7 []])
 .ret)),
 [.agg 4 2 [.int .i64,.int .i64],.tmp 5],
 [],
 []⟩
theorem r72_ok : resFun (progU ()) hint live 72 Try.f72 = some r72:=by kernel_rfl
def r73 : RFun :=
⟨.seq (.reg (some [0,1]) [⟨some 2,none,.op true (.box 2 (.tmp 0))⟩,⟨some 3,none,.op true (.box 2 (.tmp 1))⟩,⟨some 4,none,.op true (.new 2 [.int .i64 0,.int .i64 0])⟩,Ac 5 0])
 (.seq (.seq (.reg (some [2,3,4]) [Ld 12 2,Ld 13 3,Ca 14 66 [.tmp 12,.tmp 13] (some (.val (.one (.int .i64)))),Bc 15 .neq 3 14 .i64 0])
 (.cond (.tmp 15) (.seq (.reg (some [2,3,4]) [Ro 16 (.build [.int .i64 0,.int .i64 0] []),Ld 17 2,Ld 18 3,Ca 19 66 [.tmp 17,.tmp 18] (some (.val (.one (.int .i64)))),⟨none,none,.op false (.store 2 (.tmp 4) (.tmp 16))⟩,As 5 19])
 .ret)
 .skip))
 (.seq (.reg (some [2,3,4]) [Fa 20 1 2,L1 21 20,Ro 22 (.convI .u64 (.tmp 21)),Fa 23 1 3,L1 24 23,Ro 25 (.convI .u64 (.tmp 24)),Ca 26 47 [.tmp 22,.tmp 25] (some (.val (.one (.int .u64)))),As 6 26])
 (.seq (.draw (some [2,3,4,6]) 22 [Dr (Fa 27 0 2) 0 [1,2,8,11,17,20,21],Db (L1 28 27) 1 27 [2,8,11,17,20,21],Dr (Fa 30 1 3) 3 [4,5,7,8,11,17,20,21],Db (L1 31 30) 4 30 [5,7,8,11,17,20,21],⟨Ro 32 (.convI .u64 (.tmp 31)),5,.cvt (.tmp 31),[7,8,11,17,20,21],false,true⟩,Dr (Mv 33 6) 6 [7,8,11,17,20,21],Dr (Bt 34 .quo 80 32 33) 7 [8,11,17,20,21],Dr (Fa 36 0 3) 9 [10,11,17,20,21],Db (L1 37 36) 10 36 [11,17,20,21],Dr (Fa 39 1 2) 12 [13,14,16,17,20,21],Db (L1 40 39) 13 39 [14,16,17,20,21],⟨Ro 41 (.convI .u64 (.tmp 40)),14,.cvt (.tmp 40),[16,17,20,21],false,true⟩,Dr (Mv 42 6) 15 [16,17,20,21],Dr (Bt 43 .quo 80 41 42) 16 [17,20,21],⟨⟨some 7,none,.op true (.new 4 [.int .u64 0,.int .u64 0,.int .u64 0,.int .u64 0])⟩,18,.new true,[20,21],false,true⟩,⟨⟨some 8,none,.op true (.new 4 [.int .u64 0,.int .u64 0,.int .u64 0,.int .u64 0])⟩,19,.new true,[20,21],false,true⟩,⟨Ca 29 48 [.tmp 28] (some (.val (.one (.int .u64)))),2,.all,[8,11,17,20,21],false,false⟩,⟨Ca 35 77 [.tmp 29,.tmp 34] (some (.val (.agg [.int .u64,.int .u64,.int .u64,.int .u64]))),8,.all,[11,17,20,21],false,false⟩,⟨Ca 38 48 [.tmp 37] (some (.val (.one (.int .u64)))),11,.all,[17,20,21],false,false⟩,⟨Ca 44 77 [.tmp 38,.tmp 43] (some (.val (.agg [.int .u64,.int .u64,.int .u64,.int .u64]))),17,.all,[20,21],false,false⟩,⟨⟨none,none,.op false (.store 4 (.tmp 7) (.tmp 35))⟩,20,.blk (.tmp 7),[21],true,true⟩,⟨⟨none,none,.op false (.store 4 (.tmp 8) (.tmp 44))⟩,21,.blk (.tmp 8),[],true,true⟩])
 (.seq (.seq (.reg (some [2,3,4,6,7,8]) [Fa 45 0 2,L1 46 45,Bc 47 .lss 2 46 .i64 0,Fa 48 0 3,L1 49 48,Bc 50 .lss 2 49 .i64 0,Bt 51 .eql 4 47 50])
 (.cond (.tmp 51) (.reg (some [2,3,4,6,7,8]) [Ro 52 (.load 4 [.int .u64,.int .u64,.int .u64,.int .u64] (.tmp 7)),Ro 53 (.load 4 [.int .u64,.int .u64,.int .u64,.int .u64] (.tmp 8)),Ca 54 86 [.tmp 52,.tmp 53] (some (.val (.agg [.int .u64,.int .u64,.int .u64,.int .u64]))),⟨none,none,.op false (.store 4 (.tmp 7) (.tmp 54))⟩])
 (.seq (.reg (some [2,3,4,6,7,8]) [Ro 55 (.load 4 [.int .u64,.int .u64,.int .u64,.int .u64] (.tmp 7)),Ro 56 (.load 4 [.int .u64,.int .u64,.int .u64,.int .u64] (.tmp 8)),Ca 57 78 [.tmp 55,.tmp 56] (some (.val (.one .bool)))])
 (.cond (.tmp 57) (.draw (some [2,3,4,6,7,8]) 8 [Db (Ro 58 (.load 4 [.int .u64,.int .u64,.int .u64,.int .u64] (.tmp 8))) 0 8 [2,5,6,7],Db (Ro 59 (.load 4 [.int .u64,.int .u64,.int .u64,.int .u64] (.tmp 7))) 1 7 [2,5,6,7],Db (Ld 61 3) 3 3 [6,7],Db (Ld 62 2) 4 2 [5,6,7],⟨Ca 60 87 [.tmp 58,.tmp 59] (some (.val (.agg [.int .u64,.int .u64,.int .u64,.int .u64]))),2,.all,[5,6,7],false,false⟩,⟨⟨none,none,.op false (.store 4 (.tmp 7) (.tmp 60))⟩,5,.blk (.tmp 7),[6,7],true,true⟩,⟨⟨none,none,.op false (.store 2 (.tmp 2) (.tmp 61))⟩,6,.blk (.tmp 2),[7],true,true⟩,⟨⟨none,none,.op false (.store 2 (.tmp 3) (.tmp 62))⟩,7,.blk (.tmp 3),[],true,true⟩])
 (.reg (some [2,3,4,6,7,8]) [Ro 63 (.load 4 [.int .u64,.int .u64,.int .u64,.int .u64] (.tmp 7)),Ro 64 (.load 4 [.int .u64,.int .u64,.int .u64,.int .u64] (.tmp 8)),Ca 65 87 [.tmp 63,.tmp 64] (some (.val (.agg [.int .u64,.int .u64,.int .u64,.int .u64]))),⟨none,none,.op false (.store 4 (.tmp 7) (.tmp 65))⟩])))))
 (.seq (.reg (some [2,3,4,6,7]) [Ro 67 (.load 4 [.int .u64,.int .u64,.int .u64,.int .u64] (.tmp 7)),Mv 68 6,Ca 69 88 [.tmp 67,.tmp 68] (some (.tup [.agg [.int .u64,.int .u64,.int .u64,.int .u64],.one (.int .u64)])),Mv 66 69,Ex 70 66 0,Ex 71 66 1,⟨some 9,none,.op true (.new 4 [.int .u64 0,.int .u64 0,.int .u64 0,.int .u64 0])⟩,⟨none,none,.op false (.store 4 (.tmp 9) (.tmp 70))⟩,As 10 71])
 (.seq (.reg (some [2,3,4,6,7,10]) [Mv 72 10,Mv 73 6,Ca 74 47 [.tmp 72,.tmp 73] (some (.val (.one (.int .u64)))),As 11 74])
 (.seq (.reg (some [2,3,4,6,7,11]) [Ro 76 (.load 4 [.int .u64,.int .u64,.int .u64,.int .u64] (.tmp 7)),Mv 77 11,Ca 78 88 [.tmp 76,.tmp 77] (some (.tup [.agg [.int .u64,.int .u64,.int .u64,.int .u64],.one (.int .u64)])),Mv 75 78,Ex 79 75 0,Ex 80 75 1,⟨none,none,.op false (.store 4 (.tmp 7) (.tmp 79))⟩])
 (.seq (.seq (.reg (some [2,3,4,6,7,11]) [Ro 81 (.load 4 [.int .u64,.int .u64,.int .u64,.int .u64] (.tmp 7)),Ro 82 (.build [.int .u64 0,.int .u64 0,.int .u64 0,.int .u64 0] []),Bt 83 .eql 88 81 82])
 (.cond (.tmp 83) (.seq (.reg (some [4]) [Ro 84 (.build [.int .i64 0,.int .i64 0] [(1,1,(.const (.int .i64 1)))]),⟨none,none,.op false (.store 2 (.tmp 4) (.tmp 84))⟩,Ac 5 0])
 .ret)
 .skip))
 (.seq (.draw (some [2,3,4,6,7,11]) 20 [Dr (Fa 85 0 2) 0 [1,2,15,16,17,18,19],Db (L1 86 85) 1 85 [2,15,16,17,18,19],Dr (Bc 87 .lss 2 86 .i64 0) 2 [15,16,17,18,19],Db (Ro 88 (.load 4 [.int .u64,.int .u64,.int .u64,.int .u64] (.tmp 7))) 3 7 [15,16,17,18,19],Dr (Fa 89 1 2) 4 [5,6,8,14,15,16,17,18,19],Db (L1 90 89) 5 89 [6,8,14,15,16,17,18,19],⟨Ro 91 (.convI .u64 (.tmp 90)),6,.cvt (.tmp 90),[8,14,15,16,17,18,19],false,true⟩,Dr (Mv 92 6) 7 [8,14,15,16,17,18,19],Dr (Bt 93 .quo 80 91 92) 8 [14,15,16,17,18,19],Dr (Fa 94 1 3) 9 [10,11,13,14,15,16,17,18,19],Db (L1 95 94) 10 94 [11,13,14,15,16,17,18,19],⟨Ro 96 (.convI .u64 (.tmp 95)),11,.cvt (.tmp 95),[13,14,15,16,17,18,19],false,true⟩,Dr (Mv 97 11) 12 [13,14,15,16,17,18,19],Dr (Bt 98 .quo 80 96 97) 13 [14,15,16,17,18,19],⟨Ca 99 77 [.tmp 93,.tmp 98] (some (.val (.agg [.int .u64,.int .u64,.int .u64,.int .u64]))),14,.all,[15,16,17,18,19],false,false⟩,⟨Ca 100 51 [.tmp 87,.tmp 88,.tmp 99] (some (.tup [.agg [.int .i64,.int .i64],.one (.int .i64)])),15,.all,[16,17,18,19],false,false⟩,Dr (Ex 101 100 0) 16 [18,19],Dr (Ex 102 100 1) 17 [18,19],⟨⟨none,none,.op false (.store 2 (.tmp 4) (.tmp 101))⟩,18,.blk (.tmp 4),[19],true,true⟩,Dr (As 5 102) 19 []])
 .ret))))))))),
 [.agg 4 2 [.int .i64,.int .i64],.tmp 5],
 [],
 []⟩
theorem r73_ok : resFun (progU ()) hint live 73 Try.f73 = some r73:=by kernel_rfl
end Go.Proofs.Ytnokkniofajnhaa
