import Derived.Test.YtkbgkjlgnmlghaaSeat0
import Derived.Test.YtkbgkjlgnmlghaaSymS
set_option linter.unusedSimpArgs false
set_option linter.unusedVariables false
namespace Go.Proofs.Ytkbgkjlgnmlghaa
open Go.Sim
set_option maxRecDepth 100000
def r92 : RFun :=
⟨.seq (.reg (some [0]) [Ac 2 0])
 (.seq (.seq (.reg (some [0,2]) [Mv 3 0,Bc 4 .geq 110 3 .u64 4294967296])
 (.cond (.tmp 4) (.seq (.reg (some [0]) [Mv 5 0,Ol 6 (.binOp .shr 110 (.tmp 5) (.const (.int .u64 32)) 95),As 0 6])
 (.reg (some [0]) [Ac 2 32]))
 .skip))
 (.seq (.seq (.reg (some [0,2]) [Mv 7 0,Bc 8 .geq 110 7 .u64 65536])
 (.cond (.tmp 8) (.seq (.reg (some [0,2]) [Mv 9 0,Ol 10 (.binOp .shr 110 (.tmp 9) (.const (.int .u64 16)) 95),As 0 10])
 (.reg (some [0,2]) [Mv 11 2,Bc 12 .add 3 11 .i64 16,As 2 12]))
 .skip))
 (.seq (.seq (.reg (some [0,2]) [Mv 13 0,Bc 14 .geq 110 13 .u64 256])
 (.cond (.tmp 14) (.seq (.reg (some [0,2]) [Mv 15 0,Ol 16 (.binOp .shr 110 (.tmp 15) (.const (.int .u64 8)) 95),As 0 16])
 (.reg (some [0,2]) [Mv 17 2,Bc 18 .add 3 17 .i64 8,As 2 18]))
 .skip))
 (.seq (.reg (some [0,2]) [Mv 19 2,Mv 20 0,Ro 21 (.convI .u8 (.tmp 20)),⟨some 22,none,.op false (.old (.index 9 (.const (.string ⟨#[0,1,2,2,3,3,3,3,4,4,4,4,4,4,4,4,5,5,5,5,5,5,5,5,5,5,5,5,5,5,5,5,6,6,6,6,6,6,6,6,6,6,6,6,6,6,6,6,6,6,6,6,6,6,6,6,6,6,6,6,6,6,6,6,7,7,7,7,7,7,7,7,7,7,7,7,7,7,7,7,7,7,7,7,7,7,7,7,7,7,7,7,7,7,7,7,7,7,7,7,7,7,7,7,7,7,7,7,7,7,7,7,7,7,7,7,7,7,7,7,7,7,7,7,7,7,7,7,8,8,8,8,8,8,8,8,8,8,8,8,8,8,8,8,8,8,8,8,8,8,8,8,8,8,8,8,8,8,8,8,8,8,8,8,8,8,8,8,8,8,8,8,8,8,8,8,8,8,8,8,8,8,8,8,8,8,8,8,8,8,8,8,8,8,8,8,8,8,8,8,8,8,8,8,8,8,8,8,8,8,8,8,8,8,8,8,8,8,8,8,8,8,8,8,8,8,8,8,8,8,8,8,8,8,8,8,8,8,8,8,8,8,8,8,8,8,8,8,8,8,8,8,8,8,8,8]⟩)) (.tmp 21)))⟩,Ro 23 (.convI .i64 (.tmp 22)),Bt 24 .add 3 19 23,As 2 24])
 .ret)))),
 [.tmp 2],
 [],
 []⟩
theorem r92_ok : resFun (progU ()) hint live 92 Try.f92 = some r92:=by kernel_rfl
def r93 : RFun :=
⟨.seq (.reg (some [0,1]) [⟨some 2,none,.op true (.box 2 (.tmp 0))⟩,⟨some 3,none,.op true (.box 2 (.tmp 1))⟩,Ac 4 0])
 (.seq (.seq (.reg (some [2,3]) [Ld 5 2,Ca 6 68 [.tmp 5] (some (.val (.one (.int .i64)))),Bc 7 .neq 3 6 .i64 0])
 (.cond (.tmp 7) (.seq (.reg (some [2]) [Ld 8 2,Ca 9 68 [.tmp 8] (some (.val (.one (.int .i64)))),As 4 9])
 .ret)
 .skip))
 (.seq (.reg (some [3]) [Ld 10 3,Ca 11 68 [.tmp 10] (some (.val (.one (.int .i64)))),As 4 11])
 .ret)),
 [.tmp 4],
 [],
 []⟩
theorem r93_ok : resFun (progU ()) hint live 93 Try.f93 = some r93:=by kernel_rfl
def r94 : RFun :=
⟨.seq (.reg (some [0,1]) [Ol 4 (.assign (.const (.int .u64 0)))])
 (.seq (.block 0 (.loop 1 (some [0,1]) (some [0,1])))
 (.seq (.reg (some [0]) [Mv 11 0,As 4 11])
 .ret)),
 [.tmp 4],
 [(1,⟨some [0,1],some [0,1],.seq (.seq (.reg (some [0,1]) [Mv 5 1,Bc 6 .neq 110 5 .u64 0])
 (.cond (.tmp 6) .skip
 (.exit 0 (some [0]))))
 (.block 1 (.draw (some [0,1]) 6 [Dr (Mv 7 1) 0 [4,5],Dr (Mv 8 0) 1 [3,4,5],Dr (Mv 9 1) 2 [3,5],Dr (Bt 10 .rem 110 8 9) 3 [5],Dr (As 0 7) 4 [5],Dr (As 1 10) 5 []]))⟩)],
 []⟩
theorem r94_ok : resFun (progU ()) hint live 94 Try.f94 = some r94:=by kernel_rfl
def r95 : RFun :=
⟨.seq (.reg (some [0]) [Ol 2 (.assign (.const (.int .u64 0)))])
 (.seq (.seq (.reg (some [0]) [Mv 3 0,Bc 4 .geq 2 3 .i64 0])
 (.cond (.tmp 4) (.seq (.reg (some [0]) [Mv 5 0,Ro 6 (.convI .u64 (.tmp 5)),As 2 6])
 .ret)
 .skip))
 (.seq (.reg (some [0]) [Mv 7 0,Bc 8 .add 2 7 .i64 1,Ol 9 (.unOp .neg 2 (.tmp 8)),Ro 10 (.convI .u64 (.tmp 9)),Bc 11 .add 110 10 .u64 1,As 2 11])
 .ret)),
 [.tmp 2],
 [],
 []⟩
theorem r95_ok : resFun (progU ()) hint live 95 Try.f95 = some r95:=by kernel_rfl
def r96 : RFun :=
⟨.seq (.reg (some [0,1,2]) [⟨some 4,none,.op true (.box 4 (.tmp 1))⟩,⟨some 5,none,.op true (.box 4 (.tmp 2))⟩,⟨some 6,none,.op true (.new 2 [.int .i64 0,.int .i64 0])⟩,Ac 7 0])
 (.seq (.reg (some [0,4,5,6]) [Ro 13 (.load 4 [.int .u64,.int .u64,.int .u64,.int .u64] (.tmp 4)),Ca 14 110 [.tmp 13] (some (.tup [.one (.int .i64),.one .bool])),Mv 12 14,Ex 15 12 0,Ex 16 12 1,As 8 15,As 9 16])
 (.seq (.reg (some [0,5,6,8,9]) [Ro 18 (.load 4 [.int .u64,.int .u64,.int .u64,.int .u64] (.tmp 5)),Ca 19 110 [.tmp 18] (some (.tup [.one (.int .i64),.one .bool])),Mv 17 19,Ex 20 17 0,Ex 21 17 1,As 10 20,As 11 21])
 (.seq (.seq (.reg (some [0,6,8,9,10,11]) [Mv 22 9,Ol 23 (.unOp .not 4 (.tmp 22)),Mv 24 23,⟨some 25,some (24,false),.op false (.old (.move (.tmp 11)))⟩,⟨some 26,some (24,false),.op false (.old (.unOp .not 4 (.tmp 25)))⟩,Ol 27 (.pick (.tmp 24) (.const (.bool true)) (.tmp 26))])
 (.cond (.tmp 27) (.seq (.reg (some [6]) [Ro 28 (.build [.int .i64 0,.int .i64 0] []),⟨none,none,.op false (.store 2 (.tmp 6) (.tmp 28))⟩,Ac 7 16])
 .ret)
 .skip))
 (.seq (.seq (.reg (some [0,6,8,10]) [Mv 29 0])
 (.cond (.tmp 29) (.reg (some [6,8,10]) [Mv 30 8,Ol 31 (.unOp .neg 2 (.tmp 30)),As 8 31])
 .skip))
 (.seq (.reg (some [6,8,10]) [Mv 32 8,Mv 33 10,Ro 34 (.build [.int .i64 0,.int .i64 0] [(0,1,(.tmp 32)),(1,1,(.tmp 33))]),⟨none,none,.op false (.store 2 (.tmp 6) (.tmp 34))⟩,Ac 7 0])
 .ret))))),
 [.agg 6 2 [.int .i64,.int .i64],.tmp 7],
 [],
 []⟩
theorem r96_ok : resFun (progU ()) hint live 96 Try.f96 = some r96:=by kernel_rfl
def r97 : RFun :=
⟨.seq (.reg (some [0,1]) [⟨some 4,none,.op true (.new 4 [.int .u64 0,.int .u64 0,.int .u64 0,.int .u64 0])⟩])
 (.seq (.reg (some [0,1,4]) [Mv 11 0,Ca 12 111 [.tmp 11] (some (.val (.agg [.int .u64,.int .u64,.int .u64,.int .u64]))),Mv 13 1,Ca 14 111 [.tmp 13] (some (.val (.agg [.int .u64,.int .u64,.int .u64,.int .u64]))),Ro 5 (.new 4 [.int .u64 0,.int .u64 0,.int .u64 0,.int .u64 0]),Ro 6 (.new 4 [.int .u64 0,.int .u64 0,.int .u64 0,.int .u64 0]),⟨none,none,.op false (.store 4 (.tmp 5) (.tmp 12))⟩,⟨none,none,.op false (.store 4 (.tmp 6) (.tmp 14))⟩])
 (.seq (.reg (some [4,5,6]) [Ro 15 (.build [.int .u64 0,.int .u64 0,.int .u64 0,.int .u64 0] []),Ro 7 (.new 4 [.int .u64 0,.int .u64 0,.int .u64 0,.int .u64 0]),⟨none,none,.op false (.store 4 (.tmp 7) (.tmp 15))⟩])
 (.seq (.seq (.reg (some [4,5,6,7]) [Ac 8 0])
 (.block 0 (.loop 4 (some [4,5,6,7,8]) (some [4,5,6,7,8]))))
 (.seq (.reg (some [4,7]) [Ro 60 (.load 4 [.int .u64,.int .u64,.int .u64,.int .u64] (.tmp 7)),⟨none,none,.op false (.store 4 (.tmp 4) (.tmp 60))⟩])
 .ret)))),
 [.agg 4 4 [.int .u64,.int .u64,.int .u64,.int .u64]],
 [(4,⟨some [4,5,6,7,8],some [4,5,6,7,8],.seq (.seq (.reg (some [4,5,6,7,8]) [Mv 16 8,Bc 17 .lss 3 16 .i64 2])
 (.cond (.tmp 17) .skip
 (.exit 0 (some [4,7]))))
 (.seq (.block 1 (.seq (.reg (some [4,5,6,7,8]) [Ol 9 (.assign (.const (.int .u64 0)))])
 (.seq (.seq (.reg (some [4,5,6,7,8,9]) [Ac 10 0])
 (.block 2 (.loop 8 (some [4,5,6,7,8,9,10]) (some [4,5,6,7,8,9,10]))))
 (.reg (some [4,5,6,7,8,9]) [Mv 51 8,Bc 52 .add 3 51 .i64 2,Fa 53 0 7,Ro 54 (.ixA 4 1 (.tmp 53) (.tmp 52)),Ro 55 (.load1 (.int .u64) (.tmp 54)),Mv 56 9,Bt 57 .add 110 55 56,Fa 58 0 7,Ro 59 (.ixA 4 1 (.tmp 58) (.tmp 52)),⟨none,none,.op false (.store 1 (.tmp 59) (.tmp 57))⟩]))))
 (.reg (some [4,5,6,7,8]) [Mv 18 8,Bc 19 .add 3 18 .i64 1,As 8 19]))⟩),(8,⟨some [4,5,6,7,8,9,10],some [4,5,6,7,8,9,10],.seq (.seq (.reg (some [4,5,6,7,8,9,10]) [Mv 20 10,Bc 21 .lss 3 20 .i64 2])
 (.cond (.tmp 21) .skip
 (.exit 2 (some [4,5,6,7,8,9]))))
 (.seq (.block 3 (.seq (.draw (some [4,5,6,7,8,9,10]) 19 [Dr (Mv 24 9) 0 [17,18],Dr (Mv 25 8) 1 [3,5,6,16,17,18],Dr (Mv 26 10) 2 [3,5,6,16,17,18],Dr (Bt 27 .add 3 25 26) 3 [5,6,16,17,18],Dr (Fa 28 0 7) 4 [5,6,16,17,18],Dr (Ro 29 (.ixA 4 1 (.tmp 28) (.tmp 27))) 5 [6,16,17,18],Db (Ro 30 (.load1 (.int .u64) (.tmp 29))) 6 29 [16,17,18],Dr (Mv 31 8) 7 [9,10,15,16,17,18],Dr (Fa 32 0 5) 8 [9,10,15,16,17,18],Dr (Ro 33 (.ixA 4 1 (.tmp 32) (.tmp 31))) 9 [10,15,16,17,18],Db (Ro 34 (.load1 (.int .u64) (.tmp 33))) 10 33 [15,16,17,18],Dr (Mv 35 10) 11 [13,14,15,16,17,18],Dr (Fa 36 0 6) 12 [13,14,15,16,17,18],Dr (Ro 37 (.ixA 4 1 (.tmp 36) (.tmp 35))) 13 [14,15,16,17,18],Db (Ro 38 (.load1 (.int .u64) (.tmp 37))) 14 37 [15,16,17,18],Dr (Bt 39 .mul 110 34 38) 15 [16,17,18],Dr (Bt 40 .add 110 30 39) 16 [17,18],Dr (Bt 41 .add 110 24 40) 17 [18],Dr (As 9 41) 18 []])
 (.seq (.reg (some [4,5,6,7,8,9,10]) [Mv 42 8,Mv 43 10,Bt 44 .add 3 42 43,Mv 45 9,Bc 46 .and 110 45 .u64 4294967295,Fa 47 0 7,Ro 48 (.ixA 4 1 (.tmp 47) (.tmp 44)),⟨none,none,.op false (.store 1 (.tmp 48) (.tmp 46))⟩])
 (.reg (some [4,5,6,7,8,9,10]) [Mv 49 9,Ol 50 (.binOp .shr 110 (.tmp 49) (.const (.int .u64 32)) 95),As 9 50]))))
 (.reg (some [4,5,6,7,8,9,10]) [Mv 22 10,Bc 23 .add 3 22 .i64 1,As 10 23]))⟩)],
 []⟩
theorem r97_ok : resFun (progU ()) hint live 97 Try.f97 = some r97:=by kernel_rfl
def r98 : RFun :=
⟨.seq (.reg (some [0,1]) [⟨some 2,none,.op true (.box 2 (.tmp 0))⟩,⟨some 3,none,.op true (.box 2 (.tmp 1))⟩,⟨some 4,none,.op true (.new 2 [.int .i64 0,.int .i64 0])⟩,Ac 5 0])
 (.seq (.seq (.reg (some [2,3,4]) [Ld 6 2,Ld 7 3,Ca 8 93 [.tmp 6,.tmp 7] (some (.val (.one (.int .i64)))),Bc 9 .neq 3 8 .i64 0])
 (.cond (.tmp 9) (.seq (.reg (some [2,3,4]) [Ro 10 (.build [.int .i64 0,.int .i64 0] []),Ld 11 2,Ld 12 3,Ca 13 93 [.tmp 11,.tmp 12] (some (.val (.one (.int .i64)))),⟨none,none,.op false (.store 2 (.tmp 4) (.tmp 10))⟩,As 5 13])
 .ret)
 .skip))
 (.seq (.draw (some [2,3,4]) 8 [Db (Ld 14 2) 0 2 [3,4,5,6,7],Db (Ld 15 3) 1 3 [2,3,4,5,6,7],⟨Ca 16 113 [.tmp 15] (some (.val (.agg [.int .i64,.int .i64]))),2,.all,[3,4,5,6,7],false,false⟩,⟨Ca 17 112 [.tmp 14,.tmp 16] (some (.tup [.agg [.int .i64,.int .i64],.one (.int .i64)])),3,.all,[4,5,6,7],false,false⟩,Dr (Ex 18 17 0) 4 [6,7],Dr (Ex 19 17 1) 5 [6,7],⟨⟨none,none,.op false (.store 2 (.tmp 4) (.tmp 18))⟩,6,.blk (.tmp 4),[7],true,true⟩,Dr (As 5 19) 7 []])
 .ret)),
 [.agg 4 2 [.int .i64,.int .i64],.tmp 5],
 [],
 []⟩
theorem r98_ok : resFun (progU ()) hint live 98 Try.f98 = some r98:=by kernel_rfl
def r99 : RFun :=
⟨.seq (.reg (some [0,1]) [⟨some 4,none,.op true (.new 2 [.int .i64 0,.int .i64 0])⟩,Ac 5 0])
 (.seq (.seq (.reg (some [0,1,4]) [Mv 7 1,Bc 8 .eql 2 7 .i64 0])
 (.cond (.tmp 8) (.seq (.reg (some [4]) [Ro 9 (.build [.int .i64 0,.int .i64 0] []),⟨none,none,.op false (.store 2 (.tmp 4) (.tmp 9))⟩,Ac 5 18])
 .ret)
 .skip))
 (.seq (.reg (some [0,1,4]) [Mv 10 0,Ca 11 95 [.tmp 10] (some (.val (.one (.int .u64)))),Mv 12 1,Ca 13 95 [.tmp 12] (some (.val (.one (.int .u64)))),Ca 14 94 [.tmp 11,.tmp 13] (some (.val (.one (.int .u64)))),As 6 14])
 (.seq (.reg (some [0,1,4,6]) [Mv 15 0,Bc 16 .lss 2 15 .i64 0,Mv 17 1,Bc 18 .lss 2 17 .i64 0,Bt 19 .neq 4 16 18,Mv 20 0,Ca 21 95 [.tmp 20] (some (.val (.one (.int .u64)))),Mv 22 6,Bt 23 .quo 110 21 22,Ca 24 111 [.tmp 23] (some (.val (.agg [.int .u64,.int .u64,.int .u64,.int .u64]))),Mv 25 1,Ca 26 95 [.tmp 25] (some (.val (.one (.int .u64)))),Mv 27 6,Bt 28 .quo 110 26 27,Ca 29 111 [.tmp 28] (some (.val (.agg [.int .u64,.int .u64,.int .u64,.int .u64]))),Ca 30 96 [.tmp 19,.tmp 24,.tmp 29] (some (.tup [.agg [.int .i64,.int .i64],.one (.int .i64)])),Ex 31 30 0,Ex 32 30 1,⟨none,none,.op false (.store 2 (.tmp 4) (.tmp 31))⟩,As 5 32])
 .ret))),
 [.agg 4 2 [.int .i64,.int .i64],.tmp 5],
 [],
 []⟩
theorem r99_ok : resFun (progU ()) hint live 99 Try.f99 = some r99:=by kernel_rfl
def r102 : RFun :=
⟨.seq (.reg (some [0,1]) [⟨some 2,none,.op true (.box 2 (.tmp 0))⟩,⟨some 3,none,.op true (.box 2 (.tmp 1))⟩,Ac 4 0])
 (.seq (.block 0 (.seq (.reg (some [2,3]) [Fa 7 0 2,L1 8 7,Bc 9 .lss 2 8 .i64 0,Mv 10 9,⟨some 11,some (10,true),.op false (.fieldAddr 0 (.tmp 3))⟩,⟨some 12,some (10,true),.op false (.load1 (.int .i64) (.tmp 11))⟩,⟨some 13,some (10,true),.op false (.old (.binOp .geq 2 (.tmp 12) (.const (.int .i64 0)) 2))⟩,Ol 14 (.pick (.tmp 10) (.tmp 13) (.const (.bool false))),As 6 14])
 (.cond (.tmp 6) (.seq (.reg (some []) [Ol 4 (.assign (.const (.int .i64 (-1))))])
 .ret)
 (.seq (.reg (some [2,3]) [Fa 16 0 2,L1 17 16,Bc 18 .geq 2 17 .i64 0,Mv 19 18,⟨some 20,some (19,true),.op false (.fieldAddr 0 (.tmp 3))⟩,⟨some 21,some (19,true),.op false (.load1 (.int .i64) (.tmp 20))⟩,⟨some 22,some (19,true),.op false (.old (.binOp .lss 2 (.tmp 21) (.const (.int .i64 0)) 2))⟩,Ol 23 (.pick (.tmp 19) (.tmp 22) (.const (.bool false))),As 15 23])
 (.cond (.tmp 15) (.seq (.reg (some []) [Ac 4 1])
 .ret)
 .skip)))))
 (.seq (.draw (some [2,3]) 14 [Dr (Fa 24 0 2) 0 [1,2,5,8,11,12,13],Db (L1 25 24) 1 24 [2,5,8,11,12,13],Dr (Fa 27 1 3) 3 [4,5,8,11,12,13],Db (L1 28 27) 4 27 [5,8,11,12,13],Dr (Fa 30 0 3) 6 [7,8,11,12,13],Db (L1 31 30) 7 30 [8,11,12,13],Dr (Fa 33 1 2) 9 [10,11,12,13],Db (L1 34 33) 10 33 [11,12,13],⟨Ca 26 72 [.tmp 25] (some (.val (.one (.int .u64)))),2,.all,[5,8,11,12,13],false,false⟩,⟨Ca 29 72 [.tmp 28] (some (.val (.one (.int .u64)))),5,.all,[8,11,12,13],false,false⟩,⟨Ca 32 72 [.tmp 31] (some (.val (.one (.int .u64)))),8,.all,[11,12,13],false,false⟩,⟨Ca 35 72 [.tmp 34] (some (.val (.one (.int .u64)))),11,.all,[12,13],false,false⟩,⟨Ca 36 114 [.tmp 26,.tmp 29,.tmp 32,.tmp 35] (some (.val (.one (.int .i64)))),12,.all,[13],false,false⟩,Dr (As 5 36) 13 []])
 (.seq (.seq (.reg (some [2,5]) [Fa 37 0 2,L1 38 37,Bc 39 .lss 2 38 .i64 0])
 (.cond (.tmp 39) (.seq (.reg (some [5]) [Mv 40 5,Ol 41 (.unOp .neg 3 (.tmp 40)),As 4 41])
 .ret)
 .skip))
 (.seq (.reg (some [5]) [Mv 42 5,As 4 42])
 .ret)))),
 [.tmp 4],
 [],
 []⟩
theorem r102_ok : resFun (progU ()) hint live 102 Try.f102 = some r102:=by kernel_rfl
def r103 : RFun :=
⟨.seq (.reg (some [0,1]) [Ro 2 (.box 4 (.tmp 0)),Ro 3 (.box 4 (.tmp 1)),Ol 4 (.assign (.const (.bool false)))])
 (.seq (.seq (.reg (some [2,3]) [Ac 5 3])
 (.block 0 (.loop 2 (some [2,3,5]) (some [2,3,5]))))
 (.seq (.reg (some []) [Ol 4 (.assign (.const (.bool false)))])
 .ret)),
 [.tmp 4],
 [(2,⟨some [2,3,5],some [2,3,5],.seq (.seq (.reg (some [2,3,5]) [Mv 6 5,Bc 7 .geq 3 6 .i64 0])
 (.cond (.tmp 7) .skip
 (.exit 0 (some []))))
 (.seq (.block 1 (.seq (.draw (some [2,3,5]) 9 [Dr (Mv 10 5) 0 [2,3,8],Dr (Fa 11 0 2) 1 [2,3,8],Dr (Ro 12 (.ixA 4 1 (.tmp 11) (.tmp 10))) 2 [3,8],Db (Ro 13 (.load1 (.int .u64) (.tmp 12))) 3 12 [8],Dr (Mv 14 5) 4 [6,7,8],Dr (Fa 15 0 3) 5 [6,7,8],Dr (Ro 16 (.ixA 4 1 (.tmp 15) (.tmp 14))) 6 [7,8],Db (Ro 17 (.load1 (.int .u64) (.tmp 16))) 7 16 [8],Dr (Bt 18 .neq 110 13 17) 8 []])
 (.cond (.tmp 18) (.seq (.draw (some [2,3,5]) 10 [Dr (Mv 19 5) 0 [2,3,8,9],Dr (Fa 20 0 2) 1 [2,3,8,9],Dr (Ro 21 (.ixA 4 1 (.tmp 20) (.tmp 19))) 2 [3,8,9],Db (Ro 22 (.load1 (.int .u64) (.tmp 21))) 3 21 [8,9],Dr (Mv 23 5) 4 [6,7,8,9],Dr (Fa 24 0 3) 5 [6,7,8,9],Dr (Ro 25 (.ixA 4 1 (.tmp 24) (.tmp 23))) 6 [7,8,9],Db (Ro 26 (.load1 (.int .u64) (.tmp 25))) 7 25 [8,9],Dr (Bt 27 .lss 110 22 26) 8 [9],Dr (As 4 27) 9 []])
 .ret)
 .skip)))
 (.reg (some [2,3,5]) [Mv 8 5,Bc 9 .sub 3 8 .i64 1,As 5 9]))⟩)],
 []⟩
theorem r103_ok : resFun (progU ()) hint live 103 Try.f103 = some r103:=by kernel_rfl
def r104 : RFun :=
⟨.seq (.reg (some [0]) [Ac 2 0])
 (.seq (.reg (some [0]) [Mv 3 0,Ca 4 92 [.tmp 3] (some (.val (.one (.int .i64)))),Ol 5 (.binOp .sub 3 (.const (.int .i64 64)) (.tmp 4) 3),As 2 5])
 .ret),
 [.tmp 2],
 [],
 []⟩
theorem r104_ok : resFun (progU ()) hint live 104 Try.f104 = some r104:=by kernel_rfl
def r110 : RFun :=
⟨.seq (.reg (some [0]) [Ro 1 (.box 4 (.tmp 0)),Ac 2 0,Ol 3 (.assign (.const (.bool false)))])
 (.seq (.reg (some [1]) [Fa 5 0 1,Ro 6 (.ixA 4 1 (.tmp 5) (.const (.int .i64 1))),Ro 7 (.load1 (.int .u64) (.tmp 6)),Ol 8 (.binOp .shl 110 (.tmp 7) (.const (.int .u64 32)) 95),Fa 9 0 1,Ro 10 (.ixA 4 1 (.tmp 9) (.const (.int .i64 0))),Ro 11 (.load1 (.int .u64) (.tmp 10)),Bt 12 .or 110 8 11,As 4 12])
 (.seq (.reg (some [1,4]) [Mv 13 4,Bc 14 .and 110 13 .u64 9223372036854775807,Ro 15 (.convI .i64 (.tmp 14)),Fa 16 0 1,Ro 17 (.ixA 4 1 (.tmp 16) (.const (.int .i64 2))),Ro 18 (.load1 (.int .u64) (.tmp 17)),Bc 19 .eql 110 18 .u64 0,Mv 20 19,⟨some 21,some (20,true),.op false (.fieldAddr 0 (.tmp 1))⟩,⟨some 22,some (20,true),.op false (.ixA 4 1 (.tmp 21) (.const (.int .i64 3)))⟩,⟨some 23,some (20,true),.op false (.load1 (.int .u64) (.tmp 22))⟩,⟨some 24,some (20,true),.op false (.old (.binOp .eql 110 (.tmp 23) (.const (.int .u64 0)) 110))⟩,Ol 25 (.pick (.tmp 20) (.tmp 24) (.const (.bool false))),Mv 26 25,⟨some 27,some (26,true),.op false (.old (.move (.tmp 4)))⟩,⟨some 28,some (26,true),.op false (.old (.binOp .leq 110 (.tmp 27) (.const (.int .u64 1000000000000000000)) 110))⟩,Ol 29 (.pick (.tmp 26) (.tmp 28) (.const (.bool false))),As 2 15,As 3 29])
 .ret)),
 [.tmp 2,.tmp 3],
 [],
 []⟩
theorem r110_ok : resFun (progU ()) hint live 110 Try.f110 = some r110:=by kernel_rfl
def r111 : RFun :=
⟨.seq (.reg (some [0]) [⟨some 2,none,.op true (.new 4 [.int .u64 0,.int .u64 0,.int .u64 0,.int .u64 0])⟩])
 (.seq (.reg (some [0,2]) [Mv 3 0,Bc 4 .and 110 3 .u64 4294967295,Mv 5 0,Ol 6 (.binOp .shr 110 (.tmp 5) (.const (.int .u64 32)) 95),Ro 7 (.build [.int .u64 0,.int .u64 0,.int .u64 0,.int .u64 0] [(0,1,(.tmp 4)),(1,1,(.tmp 6)),(2,1,(.const (.int .u64 0))),(3,1,(.const (.int .u64 0)))]),Ro 8 (.build [.int .u64 0,.int .u64 0,.int .u64 0,.int .u64 0] [(0,4,(.tmp 7))]),⟨none,none,.op false (.store 4 (.tmp 2) (.tmp 8))⟩])
 .ret),
 [.agg 2 4 [.int .u64,.int .u64,.int .u64,.int .u64]],
 [],
 []⟩
theorem r111_ok : resFun (progU ()) hint live 111 Try.f111 = some r111:=by kernel_rfl
end Go.Proofs.Ytkbgkjlgnmlghaa
