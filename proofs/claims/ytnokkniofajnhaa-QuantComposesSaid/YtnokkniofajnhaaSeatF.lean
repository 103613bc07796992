import Derived.Test.YtnokkniofajnhaaSeat0
import Derived.Test.YtnokkniofajnhaaSymS
set_option linter.unusedSimpArgs false
set_option linter.unusedVariables false
namespace Go.Proofs.Ytnokkniofajnhaa
open Go.Sim
set_option maxRecDepth 100000
def r51 : RFun :=
⟨.seq (Rg [0,1,2] [Bo 4 4 1,Bo 5 4 2,Nw 6 2 z2,Ac 7 0])
 (.seq (Rg [0,4,5,6] [Ro 13 (.load 4 s4 (T 4)),Ca 14 69 [T 13] (some (.tup [.one (.int .i64),.one .bool])),Mv 12 14,Ex 15 12 0,Ex 16 12 1,As 8 15,As 9 16])
 (.seq (Rg [0,5,6,8,9] [Ro 18 (.load 4 s4 (T 5)),Ca 19 69 [T 18] (some (.tup [.one (.int .i64),.one .bool])),Mv 17 19,Ex 20 17 0,Ex 21 17 1,As 10 20,As 11 21])
 (.seq (.seq (Rg [0,6,8,9,10,11] [Mv 22 9,Ol 23 (.unOp .not 4 (T 22)),Mv 24 23,Gf 25 24 (.move (T 11)),Gf 26 24 (.unOp .not 4 (T 25)),Ol 27 (.pick (T 24) (.const (.bool true)) (T 26))])
 (.cond (T 27) (.seq (Rg [6] [Ro 28 (.build z2 []),Sr 2 6 28,Ac 7 16])
 .ret)
 .skip))
 (.seq (.seq (Rg [0,6,8,10] [Mv 29 0])
 (.cond (T 29) (Rg [6,8,10] [Mv 30 8,Ol 31 (.unOp .neg 2 (T 30)),As 8 31])
 .skip))
 (.seq (Rg [6,8,10] [Mv 32 8,Mv 33 10,Ro 34 (.build z2 [(0,1,(T 32)),(1,1,(T 33))]),Sr 2 6 34,Ac 7 0])
 .ret))))),
 [.agg 6 2 [.int .i64,.int .i64],.tmp 7],
 [],
 []⟩
theorem r51_ok : resFun (progU ()) hint live 51 Try.f51 = some r51:=by kernel_rfl
def r52 : RFun :=
⟨.seq (Rg [0] [Nw 2 4 [.int .u64 0,.int .u64 0,.int .u64 0,.int .u64 0]])
 (.seq (Rg [0,2] [Mv 3 0,Bc 4 .and 80 3 .u64 4294967295,Mv 5 0,Ol 6 (.binOp .shr 80 (T 5) (.const (.int .u64 32)) 100),Ro 7 (.build [.int .u64 0,.int .u64 0,.int .u64 0,.int .u64 0] [(0,1,(T 4)),(1,1,(T 6)),(2,1,(.const (.int .u64 0))),(3,1,(.const (.int .u64 0)))]),Ro 8 (.build [.int .u64 0,.int .u64 0,.int .u64 0,.int .u64 0] [(0,4,(T 7))]),Sr 4 2 8])
 .ret),
 [.agg 2 4 [.int .u64,.int .u64,.int .u64,.int .u64]],
 [],
 []⟩
theorem r52_ok : resFun (progU ()) hint live 52 Try.f52 = some r52:=by kernel_rfl
def r53 : RFun :=
⟨.seq (Rg [0,1] [Ol 4 (.assign (.const (.int .u64 0)))])
 (.seq (.block 0 (.loop 1 (some [0,1]) (some [0,1])))
 (.seq (Rg [0] [Mv 11 0,As 4 11])
 .ret)),
 [.tmp 4],
 [(1,⟨some [0,1],some [0,1],.seq (.seq (Rg [0,1] [Mv 5 1,Bc 6 .neq 80 5 .u64 0])
 (.cond (T 6) .skip
 (.exit 0 (some [0]))))
 (.block 1 (.draw (some [0,1]) 6 [Dr (Mv 7 1) 0 [4,5],Dr (Mv 8 0) 1 [3,4,5],Dr (Mv 9 1) 2 [3,5],Dr (Bt 10 .rem 80 8 9) 3 [5],Dr (As 0 7) 4 [5],Dr (As 1 10) 5 []]))⟩)],
 []⟩
theorem r53_ok : resFun (progU ()) hint live 53 Try.f53 = some r53:=by kernel_rfl
def r54 : RFun :=
⟨.seq (Rg [0] [Ol 2 (.assign (.const (.int .u64 0)))])
 (.seq (.seq (Rg [0] [Mv 3 0,Bc 4 .lss 2 3 .i64 0])
 (.cond (T 4) (.seq (Rg [0] [Mv 5 0,Ro 6 (.convI .u64 (T 5)),Ol 7 (.unOp .neg 80 (T 6)),As 2 7])
 .ret)
 .skip))
 (.seq (Rg [0] [Mv 8 0,Ro 9 (.convI .u64 (T 8)),As 2 9])
 .ret)),
 [.tmp 2],
 [],
 []⟩
theorem r54_ok : resFun (progU ()) hint live 54 Try.f54 = some r54:=by kernel_rfl
def r55 : RFun :=
⟨.seq (Rg [0,1] [Bo 2 2 0,Bo 3 2 1,Ac 4 0,Ac 5 0])
 (.seq (.seq (Rg [2,3] [Ld 7 2,Ld 8 3,Ca 9 63 [T 7,T 8] vI,As 6 9])
 (.seq (Rg [2,3,6] [Mv 10 6,Bc 11 .neq 26 10 .i64 0])
 (.cond (T 11) (.seq (Rg [6] [Mv 12 6,Ac 4 0,As 5 12])
 .ret)
 .skip)))
 (.seq (Rg [2,3] [Ld 13 2,Ld 14 3,Ca 15 70 [T 13,T 14] vI,As 4 15,Ac 5 0])
 .ret)),
 [.tmp 4,.tmp 5],
 [],
 []⟩
theorem r55_ok : resFun (progU ()) hint live 55 Try.f55 = some r55:=by kernel_rfl
def r56 : RFun :=
⟨.seq (Rg [0,1] [Bo 2 2 0,Bo 3 2 1,Nw 4 2 z2,Ac 5 0])
 (.seq (.seq (Rg [2,3,4] [Ld 7 2,Ld 8 3,Ca 9 63 [T 7,T 8] vI,As 6 9])
 (.seq (Rg [2,3,4,6] [Mv 10 6,Bc 11 .neq 26 10 .i64 0])
 (.cond (T 11) (.seq (Rg [4,6] [Ro 12 (.build z2 []),Mv 13 6,Sr 2 4 12,As 5 13])
 .ret)
 .skip)))
 (.seq (Rg [2,3,4] [Ld 14 2,Fa 15 0 3,L1 16 15,Ol 17 (.unOp .neg 2 (T 16)),Fa 18 1 3,L1 19 18,Ro 20 (.build z2 [(0,1,(T 17)),(1,1,(T 19))]),Ca 21 71 [T 14,T 20] (some (.tup [.agg s2,.one (.int .i64)])),Ex 22 21 0,Ex 23 21 1,Sr 2 4 22,As 5 23])
 .ret)),
 [.agg 4 2 [.int .i64,.int .i64],.tmp 5],
 [],
 []⟩
theorem r56_ok : resFun (progU ()) hint live 56 Try.f56 = some r56:=by kernel_rfl
def r57 : RFun :=
⟨.seq (Rg [0,1] [Bo 2 2 0,Bo 3 2 1,Nw 4 2 z2,Ac 5 0])
 (.seq (.seq (Rg [2,3,4] [Ld 7 2,Ld 8 3,Ca 9 63 [T 7,T 8] vI,As 6 9])
 (.seq (Rg [2,3,4,6] [Mv 10 6,Bc 11 .neq 26 10 .i64 0])
 (.cond (T 11) (.seq (Rg [4,6] [Ro 12 (.build z2 []),Mv 13 6,Sr 2 4 12,As 5 13])
 .ret)
 .skip)))
 (.seq (Rg [2,3,4] [Ld 14 2,Ld 15 3,Ca 16 64 [T 14,T 15] (some (.tup [.agg s2,.one (.int .i64)])),Ex 17 16 0,Ex 18 16 1,Sr 2 4 17,As 5 18])
 .ret)),
 [.agg 4 2 [.int .i64,.int .i64],.tmp 5],
 [],
 []⟩
theorem r57_ok : resFun (progU ()) hint live 57 Try.f57 = some r57:=by kernel_rfl
def r58 : RFun :=
⟨.seq (Rg [0,1] [Bo 2 2 0,Bo 3 2 1,Nw 4 2 z2,Ac 5 0])
 (.seq (.seq (Rg [2,3,4] [Ld 7 2,Ld 8 3,Ca 9 63 [T 7,T 8] vI,As 6 9])
 (.seq (Rg [2,3,4,6] [Mv 10 6,Bc 11 .neq 26 10 .i64 0])
 (.cond (T 11) (.seq (Rg [4,6] [Ro 12 (.build z2 []),Mv 13 6,Sr 2 4 12,As 5 13])
 .ret)
 .skip)))
 (.seq (Rg [2,3,4] [Ld 14 2,Ld 15 3,Ca 16 71 [T 14,T 15] (some (.tup [.agg s2,.one (.int .i64)])),Ex 17 16 0,Ex 18 16 1,Sr 2 4 17,As 5 18])
 .ret)),
 [.agg 4 2 [.int .i64,.int .i64],.tmp 5],
 [],
 []⟩
theorem r58_ok : resFun (progU ()) hint live 58 Try.f58 = some r58:=by kernel_rfl
def r59 : RFun :=
⟨.seq (Rg [0,1,2] [Bo 3 4 0,Bo 4 4 1,Bo 5 2 2,Nw 6 2 z2])
 (.seq (Rg [3,4,5,6] [Fa 20 0 4,Ld 21 20,Ld 22 5,Ca 23 72 [T 21,T 22] (some (.tup [.agg s2,.one (.int .i64)])),Mv 19 23,Ex 24 19 0,Ex 25 19 1,Nw 7 2 z2,Sr 2 7 24,As 8 25])
 (.seq (Rg [3,4,5,6,7] [Ld 27 5,Fa 28 0 3,Ld 29 28,Ca 30 72 [T 27,T 29] (some (.tup [.agg s2,.one (.int .i64)])),Mv 26 30,Ex 31 26 0,Ex 32 26 1,Nw 9 2 z2,Sr 2 9 31,As 10 32])
 (.seq (Rg [3,4,6,7,9] [Fa 34 0 4,Ld 35 34,Fa 36 0 3,Ld 37 36,Ca 38 72 [T 35,T 37] (some (.tup [.agg s2,.one (.int .i64)])),Mv 33 38,Ex 39 33 0,Ex 40 33 1,Nw 11 2 z2,Sr 2 11 39,As 12 40])
 (.seq (Rg [3,4,6,7,9,11] [Ld 42 7,Ld 43 11,Ca 44 45 [T 42,T 43] (some (.tup [.agg s2,.one (.int .i64)])),Mv 41 44,Ex 45 41 0,Ex 46 41 1,Sr 2 7 45])
 (.seq (Rg [3,4,6,7,9,11] [Ld 48 9,Ld 49 11,Ca 50 45 [T 48,T 49] (some (.tup [.agg s2,.one (.int .i64)])),Mv 47 50,Ex 51 47 0,Ex 52 47 1,Sr 2 9 51])
 (.seq (Rg [3,4,6,7,9] [Ld 54 7,Fa 55 2 3,Ld 56 55,Ca 57 67 [T 54,T 56] (some (.tup [.agg s2,.one (.int .i64)])),Mv 53 57,Ex 58 53 0,Ex 59 53 1,Nw 13 2 z2,Sr 2 13 58,As 14 59])
 (.seq (Rg [4,6,9,13] [Ld 61 9,Fa 62 2 4,Ld 63 62,Ca 64 67 [T 61,T 63] (some (.tup [.agg s2,.one (.int .i64)])),Mv 60 64,Ex 65 60 0,Ex 66 60 1,Nw 15 2 z2,Sr 2 15 65,As 16 66])
 (.seq (Rg [6,13,15] [Ld 68 13,Ld 69 15,Ca 70 73 [T 68,T 69] (some (.tup [.agg s2,.one (.int .i64)])),Mv 67 70,Ex 71 67 0,Ex 72 67 1,Nw 17 2 z2,Sr 2 17 71,As 18 72])
 (.seq (Rg [6,17] [Ld 73 17,Sr 2 6 73])
 .ret))))))))),
 [.agg 6 2 [.int .i64,.int .i64]],
 [],
 []⟩
theorem r59_ok : resFun (progU ()) hint live 59 Try.f59 = some r59:=by kernel_rfl
def r60 : RFun :=
⟨.seq (Rg [0,1] [Mv 5 0,Ro 6 (.lenS (T 5)),As 4 6])
 (Rg [0,1,4] [Mv 7 0,Mv 8 4,Mv 9 4,Ro 10 (.convI .u64 (T 9)),Ca 11 75 [T 10] vI,Mv 12 1,Ca 13 74 [T 7,.const (.int .i64 0),T 8,T 11,T 12] (some (.tup []))]),
 [],
 [],
 []⟩
theorem r60_ok : resFun (progU ()) hint live 60 Try.f60 = some r60:=by kernel_rfl
def r61 : RFun :=
⟨.seq (Rg [0] [Ol 2 (.assign (.const (.slice none 0 0)))])
 (.seq (.seq (Rg [0] [Mv 6 0,Ro 7 (.lenS (T 6)),Bc 8 .lss 3 7 .i64 2])
 (.cond (T 8) (.seq (Rg [0] [Mv 9 0,As 2 9])
 .ret)
 .skip))
 (.seq (.seq (Rg [0] [Ac 3 1])
 (.block 0 (.loop 4 (some [0,3]) (some [0,3]))))
 (.seq (Rg [0] [Mv 60 0,As 2 60])
 .ret))),
 [.tmp 2],
 [(4,⟨some [0,3],some [0,3],.seq (.seq (Rg [0,3] [Mv 10 3,Mv 11 0,Ro 12 (.lenS (T 11)),Bt 13 .lss 3 10 12])
 (.cond (T 13) .skip
 (.exit 0 (some [0]))))
 (.seq (.block 1 (.seq (.draw (some [0,3]) 10 [Dr (Mv 16 0) 0 [2,3,9],Dr (Mv 17 3) 1 [2,3,9],Dr (Ix 18 2 16 17) 2 [3,9],Db (Ld 19 18) 3 18 [9],Dr (Mv 20 0) 4 [7,8,9],Dr (Mv 21 3) 5 [6,7,8,9],Dr (Bc 22 .sub 3 21 .i64 1) 6 [7,8,9],Dr (Ix 23 2 20 22) 7 [8,9],Db (Ld 24 23) 8 23 [9],Dr (Bt 25 .eql 24 19 24) 9 []])
 (.cond (T 25) (.seq (Rg [0,3] [Mv 26 0,Mv 27 3,Ro 28 (.cutS 69 (T 26) (some (T 27)) none none),As 4 28])
 (.seq (.seq (Rg [0,3,4] [Ac 5 1])
 (.block 2 (.loop 9 (some [0,3,4,5]) (some [0,3,4,5]))))
 (.seq (Rg [0,3] [Mv 54 0,Mv 55 3,Ro 56 (.cutS 69 (T 54) (some (T 55)) none none),⟨none,none,.op false (.old (.call ⟨.builtin .clear,#[T 56],#[69]⟩))⟩])
 (.seq (Rg [0,3] [Mv 57 0,Mv 58 3,Ro 59 (.cutS 69 (T 57) none (some (T 58)) none),As 2 59])
 .ret))))
 .skip)))
 (Rg [0,3] [Mv 14 3,Bc 15 .add 3 14 .i64 1,As 3 15]))⟩),(9,⟨some [0,3,4,5],some [0,3,4,5],.seq (.seq (Rg [0,3,4,5] [Mv 29 5,Mv 30 4,Ro 31 (.lenS (T 30)),Bt 32 .lss 3 29 31])
 (.cond (T 32) .skip
 (.exit 2 (some [0,3]))))
 (.seq (.block 3 (.seq (.draw (some [0,3,4,5]) 10 [Dr (Mv 35 4) 0 [2,3,9],Dr (Mv 36 5) 1 [2,3,9],Dr (Ix 37 2 35 36) 2 [3,9],Db (Ld 38 37) 3 37 [9],Dr (Mv 39 4) 4 [7,8,9],Dr (Mv 40 5) 5 [6,7,8,9],Dr (Bc 41 .sub 3 40 .i64 1) 6 [7,8,9],Dr (Ix 42 2 39 41) 7 [8,9],Db (Ld 43 42) 8 42 [9],Dr (Bt 44 .neq 24 38 43) 9 []])
 (.cond (T 44) (.seq (Rg [0,3,4,5] [Mv 45 0,Mv 46 3,Mv 47 4,Mv 48 5,Ix 49 2 47 48,Ld 50 49,Ix 51 2 45 46,Sr 2 51 50])
 (Rg [0,3,4,5] [Mv 52 3,Bc 53 .add 3 52 .i64 1,As 3 53]))
 .skip)))
 (Rg [0,3,4,5] [Mv 33 5,Bc 34 .add 3 33 .i64 1,As 5 34]))⟩)],
 []⟩
theorem r61_ok : resFun (progU ()) hint live 61 Try.f61 = some r61:=by kernel_rfl
def r62 : RFun :=
⟨.seq (Rg [0,1,2] [Nw 6 2 z2,Ac 7 0])
 (.seq (.seq (Rg [0,1,2,6] [Mv 9 1,Bc 10 .gtr 80 9 .u64 1000000000000000000,Mv 11 10,Gf 12 11 (.move (T 2)),Gf 13 11 (.binOp .gtr 80 (T 12) (.const (.int .u64 1000000000000000000)) 80),Ol 14 (.pick (T 11) (.const (.bool true)) (T 13))])
 (.cond (T 14) (.seq (Rg [6] [Ro 15 (.build z2 []),Sr 2 6 15,Ac 7 16])
 .ret)
 .skip))
 (.seq (Rg [0,1,2,6] [Mv 16 1,Ro 17 (.convI .i64 (T 16)),Mv 18 2,Ro 19 (.convI .i64 (T 18)),Ro 20 (.build z2 [(0,1,(T 17)),(1,1,(T 19))]),Nw 8 2 z2,Sr 2 8 20])
 (.seq (.seq (Rg [0,6,8] [Mv 21 0])
 (.cond (T 21) (Rg [6,8] [Fa 22 0 8,L1 23 22,Ol 24 (.unOp .neg 2 (T 23)),Fa 25 0 8,Sr 1 25 24])
 .skip))
 (.seq (Rg [6,8] [Ld 26 8,Sr 2 6 26,Ac 7 0])
 .ret)))),
 [.agg 6 2 [.int .i64,.int .i64],.tmp 7],
 [],
 []⟩
theorem r62_ok : resFun (progU ()) hint live 62 Try.f62 = some r62:=by kernel_rfl
def r63 : RFun :=
⟨.seq (Rg [0,1] [Bo 2 2 0,Bo 3 2 1,Ac 4 0])
 (.seq (.seq (Rg [2,3] [Ld 6 2,Ca 7 32 [T 6] vI,As 5 7])
 (.seq (Rg [3,5] [Mv 8 5,Bc 9 .neq 26 8 .i64 0])
 (.cond (T 9) (.seq (Rg [5] [Mv 10 5,As 4 10])
 .ret)
 .skip)))
 (.seq (Rg [3] [Ld 11 3,Ca 12 32 [T 11] vI,As 4 12])
 .ret)),
 [.tmp 4],
 [],
 []⟩
theorem r63_ok : resFun (progU ()) hint live 63 Try.f63 = some r63:=by kernel_rfl
def r64 : RFun :=
⟨.seq (Rg [0,1] [Bo 2 2 0,Bo 3 2 1,Nw 4 2 z2,Ac 5 0])
 (.seq (.draw (some [2,3,4]) 16 [Dr (Fa 16 0 2) 0 [1,2,5,8,11,12,13,14,15],Db (L1 17 16) 1 16 [2,5,8,11,12,13,14,15],Dr (Fa 19 1 2) 3 [4,5,8,11,12,13,14,15],Db (L1 20 19) 4 19 [5,8,11,12,13,14,15],Dr (Fa 22 0 3) 6 [7,8,11,12,13,14,15],Db (L1 23 22) 7 22 [8,11,12,13,14,15],Dr (Fa 25 1 3) 9 [10,11,12,13,14,15],Db (L1 26 25) 10 25 [11,12,13,14,15],⟨Ca 18 54 [T 17] (some (.val (.one (.int .u64)))),2,.all,[5,8,11,12,13,14,15],false,false⟩,⟨Ca 21 54 [T 20] (some (.val (.one (.int .u64)))),5,.all,[8,11,12,13,14,15],false,false⟩,⟨Ca 24 54 [T 23] (some (.val (.one (.int .u64)))),8,.all,[11,12,13,14,15],false,false⟩,⟨Ca 27 54 [T 26] (some (.val (.one (.int .u64)))),11,.all,[12,13,14,15],false,false⟩,Dr (As 6 18) 12 [13,14,15],Dr (As 7 21) 13 [14,15],Dr (As 8 24) 14 [15],Dr (As 9 27) 15 []])
 (.seq (Rg [2,3,4,6,7,8,9] [Mv 28 6,Mv 29 9,Ca 30 53 [T 28,T 29] (some (.val (.one (.int .u64)))),Mv 31 8,Mv 32 7,Ca 33 53 [T 31,T 32] (some (.val (.one (.int .u64)))),As 10 30,As 11 33])
 (.seq (.draw (some [2,3,4,6,7,8,9,10,11]) 12 [Dr (Mv 35 6) 0 [2,6,7,8,9,10,11],Dr (Mv 36 10) 1 [2,6,7,8,9,10,11],Dr (Bt 37 .quo 80 35 36) 2 [6,7,8,9,10,11],Dr (Mv 38 8) 3 [5,6,7,8,9,10,11],Dr (Mv 39 11) 4 [5,6,7,8,9,10,11],Dr (Bt 40 .quo 80 38 39) 5 [6,7,8,9,10,11],⟨Ca 41 76 [T 37,T 40] (some (.tup [.one (.int .u64),.one (.int .u64)])),6,.all,[7,8,9,10,11],false,false⟩,Dr (Mv 34 41) 7 [8,9,10,11],Dr (Ex 42 34 0) 8 [10,11],Dr (Ex 43 34 1) 9 [11],Dr (As 12 42) 10 [11],Dr (As 13 43) 11 []])
 (.seq (.draw (some [2,3,4,7,9,10,11,12,13]) 12 [Dr (Mv 45 7) 0 [2,6,7,8,9,10,11],Dr (Mv 46 11) 1 [2,6,7,8,9,10,11],Dr (Bt 47 .quo 80 45 46) 2 [6,7,8,9,10,11],Dr (Mv 48 9) 3 [5,6,7,8,9,10,11],Dr (Mv 49 10) 4 [5,6,7,8,9,10,11],Dr (Bt 50 .quo 80 48 49) 5 [6,7,8,9,10,11],⟨Ca 51 76 [T 47,T 50] (some (.tup [.one (.int .u64),.one (.int .u64)])),6,.all,[7,8,9,10,11],false,false⟩,Dr (Mv 44 51) 7 [8,9,10,11],Dr (Ex 52 44 0) 8 [10,11],Dr (Ex 53 44 1) 9 [11],Dr (As 14 52) 10 [11],Dr (As 15 53) 11 []])
 (.seq (.seq (Rg [2,3,4,12,13,14,15] [Mv 54 12,Bc 55 .neq 80 54 .u64 0,Mv 56 55,Gf 57 56 (.move (T 14)),Gf 58 56 (.binOp .neq 80 (T 57) (.const (.int .u64 0)) 80),Ol 59 (.pick (T 56) (.const (.bool true)) (T 58))])
 (.cond (T 59) (.seq (Rg [4] [Ro 60 (.build z2 []),Sr 2 4 60,Ac 5 16])
 .ret)
 .skip))
 (.seq (Rg [2,3,4,13,15] [Fa 61 0 2,L1 62 61,Bc 63 .lss 2 62 .i64 0,Fa 64 0 3,L1 65 64,Bc 66 .lss 2 65 .i64 0,Bt 67 .neq 4 63 66,Mv 68 13,Mv 69 15,Ca 70 62 [T 67,T 68,T 69] (some (.tup [.agg s2,.one (.int .i64)])),Ex 71 70 0,Ex 72 70 1,Sr 2 4 71,As 5 72])
 .ret)))))),
 [.agg 4 2 [.int .i64,.int .i64],.tmp 5],
 [],
 []⟩
theorem r64_ok : resFun (progU ()) hint live 64 Try.f64 = some r64:=by kernel_rfl
def r65 : RFun :=
⟨.seq (Rg [0] [Ol 2 (.assign (.const (.bool false)))])
 (.seq (Rg [0] [Mv 3 0,Bc 4 .rem 3 3 .i64 2,Bc 5 .eql 3 4 .i64 0,As 2 5])
 .ret),
 [.tmp 2],
 [],
 []⟩
theorem r65_ok : resFun (progU ()) hint live 65 Try.f65 = some r65:=by kernel_rfl
def r66 : RFun :=
⟨.seq (Rg [0,1] [Bo 2 2 0,Bo 3 2 1,Ac 4 0])
 (.seq (.seq (Rg [2,3] [Ld 5 2,Ca 6 28 [T 5] vI,Bc 7 .neq 3 6 .i64 0])
 (.cond (T 7) (.seq (Rg [2] [Ld 8 2,Ca 9 28 [T 8] vI,As 4 9])
 .ret)
 .skip))
 (.seq (Rg [3] [Ld 10 3,Ca 11 28 [T 10] vI,As 4 11])
 .ret)),
 [.tmp 4],
 [],
 []⟩
theorem r66_ok : resFun (progU ()) hint live 66 Try.f66 = some r66:=by kernel_rfl
def r67 : RFun :=
⟨.seq (Rg [0,1] [Bo 2 2 0,Bo 3 2 1,Nw 4 2 z2,Ac 5 0])
 (.seq (.seq (Rg [2,3,4] [Ld 8 2,Ld 9 3,Ca 10 66 [T 8,T 9] vI,Bc 11 .neq 3 10 .i64 0])
 (.cond (T 11) (.seq (Rg [2,3,4] [Ro 12 (.build z2 []),Ld 13 2,Ld 14 3,Ca 15 66 [T 13,T 14] vI,Sr 2 4 12,As 5 15])
 .ret)
 .skip))
 (.seq (.draw (some [2,3,4]) 16 [Dr (Fa 16 0 2) 0 [1,2,6,9,13,14,15],Db (L1 17 16) 1 16 [2,6,9,13,14,15],Dr (Fa 19 1 3) 3 [4,5,6,9,13,14,15],Db (L1 20 19) 4 19 [5,6,9,13,14,15],⟨Ro 21 (.convI .u64 (T 20)),5,.cvt (T 20),[6,9,13,14,15],false,true⟩,Dr (Fa 23 0 3) 7 [8,9,13,14,15],Db (L1 24 23) 8 23 [9,13,14,15],Dr (Fa 26 1 2) 10 [11,12,13,14,15],Db (L1 27 26) 11 26 [12,13,14,15],⟨Ro 28 (.convI .u64 (T 27)),12,.cvt (T 27),[13,14,15],false,true⟩,⟨Ca 18 48 [T 17] (some (.val (.one (.int .u64)))),2,.all,[6,9,13,14,15],false,false⟩,⟨Ca 22 47 [T 18,T 21] (some (.val (.one (.int .u64)))),6,.all,[9,13,14,15],false,false⟩,⟨Ca 25 48 [T 24] (some (.val (.one (.int .u64)))),9,.all,[13,14,15],false,false⟩,⟨Ca 29 47 [T 25,T 28] (some (.val (.one (.int .u64)))),13,.all,[14,15],false,false⟩,Dr (As 6 22) 14 [15],Dr (As 7 29) 15 []])
 (.seq (.draw (some [2,3,4,6,7]) 34 [Dr (Fa 30 0 2) 0 [1,2,6,29,30,31,32,33],Db (L1 31 30) 1 30 [2,6,29,30,31,32,33],Dr (Bc 32 .lss 2 31 .i64 0) 2 [6,29,30,31,32,33],Dr (Fa 33 0 3) 3 [4,5,6,29,30,31,32,33],Db (L1 34 33) 4 33 [5,6,29,30,31,32,33],Dr (Bc 35 .lss 2 34 .i64 0) 5 [6,29,30,31,32,33],Dr (Bt 36 .neq 4 32 35) 6 [29,30,31,32,33],Dr (Fa 37 0 2) 7 [8,9,11,14,16,17,28,29,30,31,32,33],Db (L1 38 37) 8 37 [9,11,14,16,17,28,29,30,31,32,33],Dr (Mv 40 6) 10 [11,17,28,29,30,31,32,33],Dr (Fa 42 0 3) 12 [13,14,16,17,28,29,30,31,32,33],Db (L1 43 42) 13 42 [14,16,17,28,29,30,31,32,33],Dr (Mv 45 7) 15 [16,17,28,29,30,31,32,33],Dr (Fa 48 1 2) 18 [19,20,22,28,29,30,31,32,33],Db (L1 49 48) 19 48 [20,22,28,29,30,31,32,33],⟨Ro 50 (.convI .u64 (T 49)),20,.cvt (T 49),[22,28,29,30,31,32,33],false,true⟩,Dr (Mv 51 7) 21 [22,28,29,30,31,32,33],Dr (Bt 52 .quo 80 50 51) 22 [28,29,30,31,32,33],Dr (Fa 53 1 3) 23 [24,25,27,28,29,30,31,32,33],Db (L1 54 53) 24 53 [25,27,28,29,30,31,32,33],⟨Ro 55 (.convI .u64 (T 54)),25,.cvt (T 54),[27,28,29,30,31,32,33],false,true⟩,Dr (Mv 56 6) 26 [27,28,29,30,31,32,33],Dr (Bt 57 .quo 80 55 56) 27 [28,29,30,31,32,33],⟨Ca 39 48 [T 38] (some (.val (.one (.int .u64)))),9,.all,[11,14,16,17,28,29,30,31,32,33],false,false⟩,Dr (Bt 41 .quo 80 39 40) 11 [17,28,29,30,31,32,33],⟨Ca 44 48 [T 43] (some (.val (.one (.int .u64)))),14,.all,[16,17,28,29,30,31,32,33],false,false⟩,Dr (Bt 46 .quo 80 44 45) 16 [17,28,29,30,31,32,33],⟨Ca 47 77 [T 41,T 46] (some (.val (.agg s4))),17,.all,[28,29,30,31,32,33],false,false⟩,⟨Ca 58 77 [T 52,T 57] (some (.val (.agg s4))),28,.all,[29,30,31,32,33],false,false⟩,⟨Ca 59 51 [T 36,T 47,T 58] (some (.tup [.agg s2,.one (.int .i64)])),29,.all,[30,31,32,33],false,false⟩,Dr (Ex 60 59 0) 30 [32,33],Dr (Ex 61 59 1) 31 [32,33],⟨Sr 2 4 60,32,.blk (T 4),[33],true,true⟩,Dr (As 5 61) 33 []])
 .ret))),
 [.agg 4 2 [.int .i64,.int .i64],.tmp 5],
 [],
 []⟩
theorem r67_ok : resFun (progU ()) hint live 67 Try.f67 = some r67:=by kernel_rfl
def r68 : RFun :=
⟨.seq (Rg [0,1] [Bo 2 2 0,Bo 3 2 1,Ol 4 (.assign (.const (.bool false)))])
 (.seq (.seq (Rg [2,3] [Fa 7 0 2,L1 8 7,Bc 9 .lss 2 8 .i64 0,Fa 10 0 3,L1 11 10,Bc 12 .lss 2 11 .i64 0,Bt 13 .neq 4 9 12])
 (.cond (T 13) (.seq (Rg [2] [Fa 14 0 2,L1 15 14,Bc 16 .lss 2 15 .i64 0,As 4 16])
 .ret)
 .skip))
 (.seq (.draw (some [2,3]) 18 [Dr (Fa 17 0 2) 0 [1,2,6,9,13,16,17],Db (L1 18 17) 1 17 [2,6,9,13,16,17],Dr (Fa 20 1 3) 3 [4,5,6,9,13,16,17],Db (L1 21 20) 4 20 [5,6,9,13,16,17],⟨Ro 22 (.convI .u64 (T 21)),5,.cvt (T 21),[6,9,13,16,17],false,true⟩,Dr (Fa 24 0 3) 7 [8,9,13,16,17],Db (L1 25 24) 8 24 [9,13,16,17],Dr (Fa 27 1 2) 10 [11,12,13,16,17],Db (L1 28 27) 11 27 [12,13,16,17],⟨Ro 29 (.convI .u64 (T 28)),12,.cvt (T 28),[13,16,17],false,true⟩,⟨Nw 5 4 [.int .u64 0,.int .u64 0,.int .u64 0,.int .u64 0],14,.new true,[16,17],false,true⟩,⟨Nw 6 4 [.int .u64 0,.int .u64 0,.int .u64 0,.int .u64 0],15,.new true,[16,17],false,true⟩,⟨Ca 19 48 [T 18] (some (.val (.one (.int .u64)))),2,.all,[6,9,13,16,17],false,false⟩,⟨Ca 23 77 [T 19,T 22] (some (.val (.agg s4))),6,.all,[9,13,16,17],false,false⟩,⟨Ca 26 48 [T 25] (some (.val (.one (.int .u64)))),9,.all,[13,16,17],false,false⟩,⟨Ca 30 77 [T 26,T 29] (some (.val (.agg s4))),13,.all,[16,17],false,false⟩,⟨Sr 4 5 23,16,.blk (T 5),[17],true,true⟩,⟨Sr 4 6 30,17,.blk (T 6),[],true,true⟩])
 (.seq (.seq (Rg [2,5,6] [Fa 31 0 2,L1 32 31,Bc 33 .lss 2 32 .i64 0])
 (.cond (T 33) (.seq (Rg [5,6] [Ro 34 (.load 4 s4 (T 6)),Ro 35 (.load 4 s4 (T 5)),Ca 36 78 [T 34,T 35] vB,As 4 36])
 .ret)
 .skip))
 (.seq (Rg [5,6] [Ro 37 (.load 4 s4 (T 5)),Ro 38 (.load 4 s4 (T 6)),Ca 39 78 [T 37,T 38] vB,As 4 39])
 .ret)))),
 [.tmp 4],
 [],
 []⟩
theorem r68_ok : resFun (progU ()) hint live 68 Try.f68 = some r68:=by kernel_rfl
def r69 : RFun :=
⟨.seq (Rg [0] [Ro 1 (.box 4 (T 0)),Ac 2 0,Ol 3 (.assign (.const (.bool false)))])
 (.seq (Rg [1] [Fa 5 0 1,Ro 6 (.ixA 4 1 (T 5) (Ci 1)),Ro 7 (.load1 (.int .u64) (T 6)),Ol 8 (.binOp .shl 80 (T 7) (.const (.int .u64 32)) 100),Fa 9 0 1,Ro 10 (.ixA 4 1 (T 9) (Ci 0)),Ro 11 (.load1 (.int .u64) (T 10)),Bt 12 .or 80 8 11,As 4 12])
 (.seq (Rg [1,4] [Mv 13 4,Bc 14 .and 80 13 .u64 9223372036854775807,Ro 15 (.convI .i64 (T 14)),Fa 16 0 1,Ro 17 (.ixA 4 1 (T 16) (Ci 2)),Ro 18 (.load1 (.int .u64) (T 17)),Bc 19 .eql 80 18 .u64 0,Mv 20 19,Ht 21 20 (.fieldAddr 0 (T 1)),Ht 22 20 (.ixA 4 1 (T 21) (Ci 3)),Ht 23 20 (.load1 (.int .u64) (T 22)),Gt 24 20 (.binOp .eql 80 (T 23) (.const (.int .u64 0)) 80),Ol 25 (.pick (T 20) (T 24) (.const (.bool false))),Mv 26 25,Gt 27 26 (.move (T 4)),Gt 28 26 (.binOp .leq 80 (T 27) (.const (.int .u64 1000000000000000000)) 80),Ol 29 (.pick (T 26) (T 28) (.const (.bool false))),As 2 15,As 3 29])
 .ret)),
 [.tmp 2,.tmp 3],
 [],
 []⟩
theorem r69_ok : resFun (progU ()) hint live 69 Try.f69 = some r69:=by kernel_rfl
def r70 : RFun :=
⟨.seq (Rg [0,1] [Bo 2 2 0,Bo 3 2 1,Ac 4 0])
 (.seq (.block 0 (.seq (Rg [2,3] [Fa 7 0 2,L1 8 7,Bc 9 .lss 2 8 .i64 0,Mv 10 9,Ht 11 10 (.fieldAddr 0 (T 3)),Ht 12 10 (.load1 (.int .i64) (T 11)),Gt 13 10 (.binOp .geq 2 (T 12) (Ci 0) 2),Ol 14 (.pick (T 10) (T 13) (.const (.bool false))),As 6 14])
 (.cond (T 6) (.seq (Rg [] [Ol 4 (.assign (.const (.int .i64 (-1))))])
 .ret)
 (.seq (Rg [2,3] [Fa 16 0 2,L1 17 16,Bc 18 .geq 2 17 .i64 0,Mv 19 18,Ht 20 19 (.fieldAddr 0 (T 3)),Ht 21 19 (.load1 (.int .i64) (T 20)),Gt 22 19 (.binOp .lss 2 (T 21) (Ci 0) 2),Ol 23 (.pick (T 19) (T 22) (.const (.bool false))),As 15 23])
 (.cond (T 15) (.seq (Rg [] [Ac 4 1])
 .ret)
 .skip)))))
 (.seq (.draw (some [2,3]) 14 [Dr (Fa 24 0 2) 0 [1,2,5,8,11,12,13],Db (L1 25 24) 1 24 [2,5,8,11,12,13],Dr (Fa 27 1 3) 3 [4,5,8,11,12,13],Db (L1 28 27) 4 27 [5,8,11,12,13],Dr (Fa 30 0 3) 6 [7,8,11,12,13],Db (L1 31 30) 7 30 [8,11,12,13],Dr (Fa 33 1 2) 9 [10,11,12,13],Db (L1 34 33) 10 33 [11,12,13],⟨Ca 26 54 [T 25] (some (.val (.one (.int .u64)))),2,.all,[5,8,11,12,13],false,false⟩,⟨Ca 29 54 [T 28] (some (.val (.one (.int .u64)))),5,.all,[8,11,12,13],false,false⟩,⟨Ca 32 54 [T 31] (some (.val (.one (.int .u64)))),8,.all,[11,12,13],false,false⟩,⟨Ca 35 54 [T 34] (some (.val (.one (.int .u64)))),11,.all,[12,13],false,false⟩,⟨Ca 36 79 [T 26,T 29,T 32,T 35] vI,12,.all,[13],false,false⟩,Dr (As 5 36) 13 []])
 (.seq (.seq (Rg [2,5] [Fa 37 0 2,L1 38 37,Bc 39 .lss 2 38 .i64 0])
 (.cond (T 39) (.seq (Rg [5] [Mv 40 5,Ol 41 (.unOp .neg 3 (T 40)),As 4 41])
 .ret)
 .skip))
 (.seq (Rg [5] [Mv 42 5,As 4 42])
 .ret)))),
 [.tmp 4],
 [],
 []⟩
theorem r70_ok : resFun (progU ()) hint live 70 Try.f70 = some r70:=by kernel_rfl
def r71 : RFun :=
⟨.seq (Rg [0,1] [Bo 2 2 0,Bo 3 2 1,Nw 4 2 z2,Ac 5 0])
 (.seq (.draw (some [2,3,4]) 8 [Dr (Fa 22 1 2) 0 [1,2,5,6,7],Db (L1 23 22) 1 22 [2,5,6,7],Dr (Fa 25 1 3) 3 [4,5,6,7],Db (L1 26 25) 4 25 [5,6,7],⟨Ca 24 54 [T 23] (some (.val (.one (.int .u64)))),2,.all,[5,6,7],false,false⟩,⟨Ca 27 54 [T 26] (some (.val (.one (.int .u64)))),5,.all,[6,7],false,false⟩,Dr (As 6 24) 6 [7],Dr (As 7 27) 7 []])
 (.seq (Rg [2,3,4,6,7] [Mv 28 6,Mv 29 7,Ca 30 53 [T 28,T 29] (some (.val (.one (.int .u64)))),As 8 30])
 (.seq (.draw (some [2,3,4,6,7,8]) 12 [Dr (Fa 32 0 2) 0 [1,2,6,7,8,9,10,11],Db (L1 33 32) 1 32 [2,6,7,8,9,10,11],Dr (Mv 35 7) 3 [5,6,7,8,9,10,11],Dr (Mv 36 8) 4 [5,6,7,8,9,10,11],Dr (Bt 37 .quo 80 35 36) 5 [6,7,8,9,10,11],⟨Ca 34 54 [T 33] (some (.val (.one (.int .u64)))),2,.all,[6,7,8,9,10,11],false,false⟩,⟨Ca 38 76 [T 34,T 37] (some (.tup [.one (.int .u64),.one (.int .u64)])),6,.all,[7,8,9,10,11],false,false⟩,Dr (Mv 31 38) 7 [8,9,10,11],Dr (Ex 39 31 0) 8 [10,11],Dr (Ex 40 31 1) 9 [11],Dr (As 9 39) 10 [11],Dr (As 10 40) 11 []])
 (.seq (.draw (some [2,3,4,6,7,8,9,10]) 12 [Dr (Fa 42 0 3) 0 [1,2,6,7,8,9,10,11],Db (L1 43 42) 1 42 [2,6,7,8,9,10,11],Dr (Mv 45 6) 3 [5,6,7,8,9,10,11],Dr (Mv 46 8) 4 [5,6,7,8,9,10,11],Dr (Bt 47 .quo 80 45 46) 5 [6,7,8,9,10,11],⟨Ca 44 54 [T 43] (some (.val (.one (.int .u64)))),2,.all,[6,7,8,9,10,11],false,false⟩,⟨Ca 48 76 [T 44,T 47] (some (.tup [.one (.int .u64),.one (.int .u64)])),6,.all,[7,8,9,10,11],false,false⟩,Dr (Mv 41 48) 7 [8,9,10,11],Dr (Ex 49 41 0) 8 [10,11],Dr (Ex 50 41 1) 9 [11],Dr (As 11 49) 10 [11],Dr (As 12 50) 11 []])
 (.seq (Rg [2,3,4,6,7,8,9,10,11,12] [Fa 51 0 2,L1 52 51,Bc 53 .lss 2 52 .i64 0,As 13 53])
 (.seq (Rg [2,3,4,6,7,8,9,10,11,12,13] [Ol 14 (.assign (.const (.int .u64 0))),Ol 15 (.assign (.const (.int .u64 0))),Ol 16 (.assign (.const (.int .u64 0)))])
 (.seq (.block 0 (.seq (Rg [2,3,4,6,7,8,9,10,11,12,13] [Fa 71 0 2,L1 72 71,Bc 73 .lss 2 72 .i64 0,Fa 74 0 3,L1 75 74,Bc 76 .lss 2 75 .i64 0,Bt 77 .eql 4 73 76,As 70 77])
 (.cond (T 70) (.seq (Rg [4,6,7,8,9,10,11,12,13] [Mv 79 10,Mv 80 12,Ca 81 80 [T 79,T 80,.const (.int .u64 0)] (some (.tup [.one (.int .u64),.one (.int .u64)])),Mv 78 81,Ex 82 78 0,Ex 83 78 1,As 15 82,As 16 83])
 (Rg [4,6,7,8,9,11,13,15,16] [Mv 85 9,Mv 86 11,Mv 87 16,Ca 88 80 [T 85,T 86,T 87] (some (.tup [.one (.int .u64),.one (.int .u64)])),Mv 84 88,Ex 89 84 0,Ex 90 84 1,As 14 89]))
 (.seq (Rg [3,4,6,7,8,9,10,11,12,13] [Mv 92 9,Mv 93 10,Mv 94 11,Mv 95 12,Ca 96 81 [T 92,T 93,T 94,T 95] vI,Bc 97 .geq 3 96 .i64 0,As 91 97])
 (.cond (T 91) (.seq (Rg [4,6,7,8,9,10,11,12,13] [Mv 99 10,Mv 100 12,Ca 101 82 [T 99,T 100,.const (.int .u64 0)] (some (.tup [.one (.int .u64),.one (.int .u64)])),Mv 98 101,Ex 102 98 0,Ex 103 98 1,As 15 102,As 16 103])
 (Rg [4,6,7,8,9,11,13,15,16] [Mv 105 9,Mv 106 11,Mv 107 16,Ca 108 82 [T 105,T 106,T 107] (some (.tup [.one (.int .u64),.one (.int .u64)])),Mv 104 108,Ex 109 104 0,Ex 110 104 1,As 14 109]))
 (.seq (Rg [3,4,6,7,8,9,10,11,12] [Fa 54 0 3,L1 55 54,Bc 56 .lss 2 55 .i64 0,As 13 56])
 (.seq (Rg [4,6,7,8,9,10,11,12,13] [Mv 58 12,Mv 59 10,Ca 60 82 [T 58,T 59,.const (.int .u64 0)] (some (.tup [.one (.int .u64),.one (.int .u64)])),Mv 57 60,Ex 61 57 0,Ex 62 57 1,As 15 61,As 16 62])
 (Rg [4,6,7,8,9,11,13,15,16] [Mv 64 11,Mv 65 9,Mv 66 16,Ca 67 82 [T 64,T 65,T 66] (some (.tup [.one (.int .u64),.one (.int .u64)])),Mv 63 67,Ex 68 63 0,Ex 69 63 1,As 14 68]))))))))
 (.seq (Rg [4,6,7,8,13,14,15] [Mv 111 8,Mv 112 14,Mv 113 15,Mv 114 8,Ca 115 83 [T 112,T 113,T 114] (some (.val (.one (.int .u64)))),Ca 116 53 [T 111,T 115] (some (.val (.one (.int .u64)))),As 17 116])
 (.seq (.seq (Rg [4,6,7,8,13,14,15,17] [Mv 117 14,Mv 118 17,Bt 119 .geq 80 117 118])
 (.cond (T 119) (.seq (Rg [4] [Ro 120 (.build z2 []),Sr 2 4 120,Ac 5 16])
 .ret)
 .skip))
 (.seq (Rg [4,6,7,8,13,14,15,17] [Mv 122 14,Mv 123 15,Mv 124 17,Ca 125 84 [T 122,T 123,T 124] (some (.tup [.one (.int .u64),.one (.int .u64)])),Mv 121 125,Ex 126 121 0,Ex 127 121 1,As 18 126,As 19 127])
 (.seq (.draw (some [4,6,7,8,13,17,18]) 12 [Dr (Mv 129 6) 0 [2,6,7,8,9,10,11],Dr (Mv 130 8) 1 [2,6,7,8,9,10,11],Dr (Bt 131 .quo 80 129 130) 2 [6,7,8,9,10,11],Dr (Mv 132 7) 3 [5,6,7,8,9,10,11],Dr (Mv 133 17) 4 [5,6,7,8,9,10,11],Dr (Bt 134 .quo 80 132 133) 5 [6,7,8,9,10,11],⟨Ca 135 76 [T 131,T 134] (some (.tup [.one (.int .u64),.one (.int .u64)])),6,.all,[7,8,9,10,11],false,false⟩,Dr (Mv 128 135) 7 [8,9,10,11],Dr (Ex 136 128 0) 8 [10,11],Dr (Ex 137 128 1) 9 [11],Dr (As 20 136) 10 [11],Dr (As 21 137) 11 []])
 (.seq (.seq (Rg [4,13,18,20,21] [Mv 138 20,Bc 139 .neq 80 138 .u64 0])
 (.cond (T 139) (.seq (Rg [4] [Ro 140 (.build z2 []),Sr 2 4 140,Ac 5 16])
 .ret)
 .skip))
 (.seq (Rg [4,13,18,21] [Mv 141 13,Mv 142 18,Mv 143 21,Ca 144 62 [T 141,T 142,T 143] (some (.tup [.agg s2,.one (.int .i64)])),Ex 145 144 0,Ex 146 144 1,Sr 2 4 145,As 5 146])
 .ret))))))))))))),
 [.agg 4 2 [.int .i64,.int .i64],.tmp 5],
 [],
 []⟩
theorem r71_ok : resFun (progU ()) hint live 71 Try.f71 = some r71:=by kernel_rfl
def r72 : RFun :=
⟨.seq (Rg [0,1] [Bo 2 2 0,Bo 3 2 1,Nw 4 2 z2,Ac 5 0])
 (.seq (.seq (Rg [2,3,4] [Ld 6 2,Ld 7 3,Ca 8 66 [T 6,T 7] vI,Bc 9 .neq 3 8 .i64 0])
 (.cond (T 9) (.seq (Rg [2,3,4] [Ro 10 (.build z2 []),Ld 11 2,Ld 12 3,Ca 13 66 [T 11,T 12] vI,Sr 2 4 10,As 5 13])
 .ret)
 .skip))
 (.seq (.draw (some [2,3,4]) 8 [Db (Ld 14 2) 0 2 [3,4,5,6,7],Db (Ld 15 3) 1 3 [2,3,4,5,6,7],⟨Ca 16 85 [T 15] (some (.val (.agg s2))),2,.all,[3,4,5,6,7],false,false⟩,⟨Ca 17 73 [T 14,T 16] (some (.tup [.agg s2,.one (.int .i64)])),3,.all,[4,5,6,7],false,false⟩,Dr (Ex 18 17 0) 4 [6,7],Dr (Ex 19 17 1) 5 [6,7],⟨Sr 2 4 18,6,.blk (T 4),[7],true,true⟩,Dr (As 5 19) 7 []])
 .ret)),
 [.agg 4 2 [.int .i64,.int .i64],.tmp 5],
 [],
 []⟩
theorem r72_ok : resFun (progU ()) hint live 72 Try.f72 = some r72:=by kernel_rfl
def r73 : RFun :=
⟨.seq (Rg [0,1] [Bo 2 2 0,Bo 3 2 1,Nw 4 2 z2,Ac 5 0])
 (.seq (.seq (Rg [2,3,4] [Ld 12 2,Ld 13 3,Ca 14 66 [T 12,T 13] vI,Bc 15 .neq 3 14 .i64 0])
 (.cond (T 15) (.seq (Rg [2,3,4] [Ro 16 (.build z2 []),Ld 17 2,Ld 18 3,Ca 19 66 [T 17,T 18] vI,Sr 2 4 16,As 5 19])
 .ret)
 .skip))
 (.seq (Rg [2,3,4] [Fa 20 1 2,L1 21 20,Ro 22 (.convI .u64 (T 21)),Fa 23 1 3,L1 24 23,Ro 25 (.convI .u64 (T 24)),Ca 26 47 [T 22,T 25] (some (.val (.one (.int .u64)))),As 6 26])
 (.seq (.draw (some [2,3,4,6]) 22 [Dr (Fa 27 0 2) 0 [1,2,8,11,17,20,21],Db (L1 28 27) 1 27 [2,8,11,17,20,21],Dr (Fa 30 1 3) 3 [4,5,7,8,11,17,20,21],Db (L1 31 30) 4 30 [5,7,8,11,17,20,21],⟨Ro 32 (.convI .u64 (T 31)),5,.cvt (T 31),[7,8,11,17,20,21],false,true⟩,Dr (Mv 33 6) 6 [7,8,11,17,20,21],Dr (Bt 34 .quo 80 32 33) 7 [8,11,17,20,21],Dr (Fa 36 0 3) 9 [10,11,17,20,21],Db (L1 37 36) 10 36 [11,17,20,21],Dr (Fa 39 1 2) 12 [13,14,16,17,20,21],Db (L1 40 39) 13 39 [14,16,17,20,21],⟨Ro 41 (.convI .u64 (T 40)),14,.cvt (T 40),[16,17,20,21],false,true⟩,Dr (Mv 42 6) 15 [16,17,20,21],Dr (Bt 43 .quo 80 41 42) 16 [17,20,21],⟨Nw 7 4 [.int .u64 0,.int .u64 0,.int .u64 0,.int .u64 0],18,.new true,[20,21],false,true⟩,⟨Nw 8 4 [.int .u64 0,.int .u64 0,.int .u64 0,.int .u64 0],19,.new true,[20,21],false,true⟩,⟨Ca 29 48 [T 28] (some (.val (.one (.int .u64)))),2,.all,[8,11,17,20,21],false,false⟩,⟨Ca 35 77 [T 29,T 34] (some (.val (.agg s4))),8,.all,[11,17,20,21],false,false⟩,⟨Ca 38 48 [T 37] (some (.val (.one (.int .u64)))),11,.all,[17,20,21],false,false⟩,⟨Ca 44 77 [T 38,T 43] (some (.val (.agg s4))),17,.all,[20,21],false,false⟩,⟨Sr 4 7 35,20,.blk (T 7),[21],true,true⟩,⟨Sr 4 8 44,21,.blk (T 8),[],true,true⟩])
 (.seq (.seq (Rg [2,3,4,6,7,8] [Fa 45 0 2,L1 46 45,Bc 47 .lss 2 46 .i64 0,Fa 48 0 3,L1 49 48,Bc 50 .lss 2 49 .i64 0,Bt 51 .eql 4 47 50])
 (.cond (T 51) (Rg [2,3,4,6,7,8] [Ro 52 (.load 4 s4 (T 7)),Ro 53 (.load 4 s4 (T 8)),Ca 54 86 [T 52,T 53] (some (.val (.agg s4))),Sr 4 7 54])
 (.seq (Rg [2,3,4,6,7,8] [Ro 55 (.load 4 s4 (T 7)),Ro 56 (.load 4 s4 (T 8)),Ca 57 78 [T 55,T 56] vB])
 (.cond (T 57) (.draw (some [2,3,4,6,7,8]) 8 [Db (Ro 58 (.load 4 s4 (T 8))) 0 8 [2,5,6,7],Db (Ro 59 (.load 4 s4 (T 7))) 1 7 [2,5,6,7],Db (Ld 61 3) 3 3 [6,7],Db (Ld 62 2) 4 2 [5,6,7],⟨Ca 60 87 [T 58,T 59] (some (.val (.agg s4))),2,.all,[5,6,7],false,false⟩,⟨Sr 4 7 60,5,.blk (T 7),[6,7],true,true⟩,⟨Sr 2 2 61,6,.blk (T 2),[7],true,true⟩,⟨Sr 2 3 62,7,.blk (T 3),[],true,true⟩])
 (Rg [2,3,4,6,7,8] [Ro 63 (.load 4 s4 (T 7)),Ro 64 (.load 4 s4 (T 8)),Ca 65 87 [T 63,T 64] (some (.val (.agg s4))),Sr 4 7 65])))))
 (.seq (Rg [2,3,4,6,7] [Ro 67 (.load 4 s4 (T 7)),Mv 68 6,Ca 69 88 [T 67,T 68] (some (.tup [.agg s4,.one (.int .u64)])),Mv 66 69,Ex 70 66 0,Ex 71 66 1,Nw 9 4 [.int .u64 0,.int .u64 0,.int .u64 0,.int .u64 0],Sr 4 9 70,As 10 71])
 (.seq (Rg [2,3,4,6,7,10] [Mv 72 10,Mv 73 6,Ca 74 47 [T 72,T 73] (some (.val (.one (.int .u64)))),As 11 74])
 (.seq (Rg [2,3,4,6,7,11] [Ro 76 (.load 4 s4 (T 7)),Mv 77 11,Ca 78 88 [T 76,T 77] (some (.tup [.agg s4,.one (.int .u64)])),Mv 75 78,Ex 79 75 0,Ex 80 75 1,Sr 4 7 79])
 (.seq (.seq (Rg [2,3,4,6,7,11] [Ro 81 (.load 4 s4 (T 7)),Ro 82 (.build [.int .u64 0,.int .u64 0,.int .u64 0,.int .u64 0] []),Bt 83 .eql 88 81 82])
 (.cond (T 83) (.seq (Rg [4] [Ro 84 (.build z2 [(1,1,(Ci 1))]),Sr 2 4 84,Ac 5 0])
 .ret)
 .skip))
 (.seq (.draw (some [2,3,4,6,7,11]) 20 [Dr (Fa 85 0 2) 0 [1,2,15,16,17,18,19],Db (L1 86 85) 1 85 [2,15,16,17,18,19],Dr (Bc 87 .lss 2 86 .i64 0) 2 [15,16,17,18,19],Db (Ro 88 (.load 4 s4 (T 7))) 3 7 [15,16,17,18,19],Dr (Fa 89 1 2) 4 [5,6,8,14,15,16,17,18,19],Db (L1 90 89) 5 89 [6,8,14,15,16,17,18,19],⟨Ro 91 (.convI .u64 (T 90)),6,.cvt (T 90),[8,14,15,16,17,18,19],false,true⟩,Dr (Mv 92 6) 7 [8,14,15,16,17,18,19],Dr (Bt 93 .quo 80 91 92) 8 [14,15,16,17,18,19],Dr (Fa 94 1 3) 9 [10,11,13,14,15,16,17,18,19],Db (L1 95 94) 10 94 [11,13,14,15,16,17,18,19],⟨Ro 96 (.convI .u64 (T 95)),11,.cvt (T 95),[13,14,15,16,17,18,19],false,true⟩,Dr (Mv 97 11) 12 [13,14,15,16,17,18,19],Dr (Bt 98 .quo 80 96 97) 13 [14,15,16,17,18,19],⟨Ca 99 77 [T 93,T 98] (some (.val (.agg s4))),14,.all,[15,16,17,18,19],false,false⟩,⟨Ca 100 51 [T 87,T 88,T 99] (some (.tup [.agg s2,.one (.int .i64)])),15,.all,[16,17,18,19],false,false⟩,Dr (Ex 101 100 0) 16 [18,19],Dr (Ex 102 100 1) 17 [18,19],⟨Sr 2 4 101,18,.blk (T 4),[19],true,true⟩,Dr (As 5 102) 19 []])
 .ret))))))))),
 [.agg 4 2 [.int .i64,.int .i64],.tmp 5],
 [],
 []⟩
theorem r73_ok : resFun (progU ()) hint live 73 Try.f73 = some r73:=by kernel_rfl
