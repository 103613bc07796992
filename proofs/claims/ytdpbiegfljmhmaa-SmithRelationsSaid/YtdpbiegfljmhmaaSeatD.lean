import Derived.Test.YtdpbiegfljmhmaaSeat0
import Derived.Test.YtdpbiegfljmhmaaSymS
set_option linter.unusedSimpArgs false
set_option linter.unusedVariables false
namespace Go.Proofs.Ytdpbiegfljmhmaa
open Go.Sim
set_option maxRecDepth 100000
def r43 : RFun :=
⟨.seq (Rg [0,1] [Ro 2 (.box 4 (T 0)),Ro 3 (.box 4 (T 1)),Nw 4 4 [.int .u64 0,.int .u64 0,.int .u64 0,.int .u64 0]])
 (.seq (Rg [2,3,4] [Ol 5 (.assign (.const (.int .u64 0)))])
 (.seq (.seq (Rg [2,3,4,5] [Ac 6 0])
 (.block 0 (.loop 3 (some [2,3,4,5,6]) (some [2,3,4,5,6]))))
 (.seq (Rg [2,4] [Ro 33 (.load 4 s4 (T 2)),Sr 4 4 33])
 .ret))),
 [.agg 4 4 [.int .u64,.int .u64,.int .u64,.int .u64]],
 [(3,⟨some [2,3,4,5,6],some [2,3,4,5,6],.seq (.seq (Rg [2,3,4,5,6] [Mv 8 6,Bc 9 .lss 3 8 .i64 4])
 (.cond (T 9) .skip
 (.exit 0 (some [2,4]))))
 (.seq (.block 1 (.seq (.draw (some [2,3,4,5,6]) 14 [Dr (Mv 12 6) 0 [2,3,4,5,10,12,13],Dr (Fa 13 0 2) 1 [2,3,4,5,10,12,13],Dr (Ro 14 (.ixA 4 1 (T 13) (T 12))) 2 [3,4,5,10,12,13],Db (Ro 15 (.load1 (.int .u64) (T 14))) 3 14 [4,5,10,12,13],Dr (Bc 16 .add 69 15 .u64 4294967295) 4 [5,10,12,13],Dr (Bc 17 .add 69 16 .u64 1) 5 [10,12,13],Dr (Mv 18 6) 6 [8,9,10,12,13],Dr (Fa 19 0 3) 7 [8,9,10,12,13],Dr (Ro 20 (.ixA 4 1 (T 19) (T 18))) 8 [9,10,12,13],Db (Ro 21 (.load1 (.int .u64) (T 20))) 9 20 [10,12,13],Dr (Bt 22 .sub 69 17 21) 10 [12,13],Dr (Mv 23 5) 11 [12,13],Dr (Bt 24 .sub 69 22 23) 12 [13],Dr (As 7 24) 13 []])
 (.seq (Rg [2,3,4,6,7] [Mv 25 6,Mv 26 7,Bc 27 .and 69 26 .u64 4294967295,Fa 28 0 2,Ro 29 (.ixA 4 1 (T 28) (T 25)),Sr 1 29 27])
 (Rg [2,3,4,6,7] [Mv 30 7,Ol 31 (.binOp .shr 69 (T 30) (.const (.int .u64 32)) 95),Ol 32 (.binOp .sub 69 (.const (.int .u64 1)) (T 31) 69),As 5 32]))))
 (Rg [2,3,4,5,6] [Mv 10 6,Bc 11 .add 3 10 .i64 1,As 6 11]))⟩)],
 []⟩
theorem r43_ok:resFun (progU ()) hint live 43 Try.f43=some r43:=by kernel_rfl
def r44 : RFun :=
⟨.seq (Rg [0,1] [Ro 2 (.box 4 (T 0)),Nw 4 4 [.int .u64 0,.int .u64 0,.int .u64 0,.int .u64 0],Ol 5 (.assign (.const (.int .u64 0)))])
 (.seq (Rg [1,2,4] [Ro 10 (.build [.int .u64 0,.int .u64 0,.int .u64 0,.int .u64 0] []),Ro 6 (.new 4 [.int .u64 0,.int .u64 0,.int .u64 0,.int .u64 0]),Sr 4 6 10,Ol 7 (.assign (.const (.int .u64 0)))])
 (.seq (.seq (Rg [1,2,4,6,7] [Ac 8 3])
 (.block 0 (.loop 3 (some [1,2,4,6,7,8]) (some [1,2,4,6,7,8]))))
 (.seq (Rg [4,6,7] [Ro 44 (.load 4 s4 (T 6)),Mv 45 7,Sr 4 4 44,As 5 45])
 .ret))),
 [.agg 4 4 [.int .u64,.int .u64,.int .u64,.int .u64],.tmp 5],
 [(3,⟨some [1,2,4,6,7,8],some [1,2,4,6,7,8],.seq (.seq (Rg [1,2,4,6,7,8] [Mv 11 8,Bc 12 .geq 3 11 .i64 0])
 (.cond (T 12) .skip
 (.exit 0 (some [4,6,7]))))
 (.seq (.block 1 (.seq (Rg [1,2,4,6,7,8] [Ac 9 31])
 (.block 2 (.loop 6 (some [1,2,4,6,7,8,9]) (some [1,2,4,6,7,8,9])))))
 (Rg [1,2,4,6,7,8] [Mv 13 8,Bc 14 .sub 3 13 .i64 1,As 8 14]))⟩),(6,⟨some [1,2,4,6,7,8,9],some [1,2,4,6,7,8,9],.seq (.seq (Rg [1,2,4,6,7,8,9] [Mv 15 9,Bc 16 .geq 3 15 .i64 0])
 (.cond (T 16) .skip
 (.exit 2 (some [1,2,4,6,7,8]))))
 (.seq (.block 3 (.seq (Rg [1,2,4,6,7,8,9] [Mv 19 7,Ol 20 (.binOp .shl 69 (T 19) (.const (.int .u64 1)) 95),Mv 21 8,Fa 22 0 2,Ro 23 (.ixA 4 1 (T 22) (T 21)),Ro 24 (.load1 (.int .u64) (T 23)),Mv 25 9,Ol 26 (.binOp .shr 69 (T 24) (T 25) 3),Bc 27 .and 69 26 .u64 1,Bt 28 .or 69 20 27,As 7 28])
 (.seq (Rg [1,2,4,6,7,8,9] [Mv 29 7,Mv 30 1,Bt 31 .geq 69 29 30])
 (.cond (T 31) (.seq (Rg [1,2,4,6,7,8,9] [Mv 32 7,Mv 33 1,Bt 34 .sub 69 32 33,As 7 34])
 (.draw (some [1,2,4,6,7,8,9]) 10 [Dr (Mv 35 8) 0 [2,3,6,8,9],Dr (Fa 36 0 6) 1 [2,3,6,8,9],Dr (Ro 37 (.ixA 4 1 (T 36) (T 35))) 2 [3,6,8,9],Db (Ro 38 (.load1 (.int .u64) (T 37))) 3 37 [6,8,9],Dr (Mv 39 9) 4 [5,6,8,9],Dr (Ol 40 (.binOp .shl 69 (.const (.int .u64 1)) (T 39) 3)) 5 [6,8,9],Dr (Bt 41 .or 69 38 40) 6 [8,9],Dr (Fa 42 0 6) 7 [8,9],Dr (Ro 43 (.ixA 4 1 (T 42) (T 35))) 8 [9],⟨Sr 1 43 41,9,.blk (T 43),[],true,true⟩]))
 .skip))))
 (Rg [1,2,4,6,7,8,9] [Mv 17 9,Bc 18 .sub 3 17 .i64 1,As 9 18]))⟩)],
 []⟩
theorem r44_ok:resFun (progU ()) hint live 44 Try.f44=some r44:=by kernel_rfl
def r45 : RFun :=
⟨.seq (Rg [0,1,2] [Bo 4 4 1,Bo 5 4 2,Nw 6 2 z2,Ac 7 0])
 (.seq (Rg [0,4,5,6] [Ro 13 (.load 4 s4 (T 4)),Ca 14 64 [T 13] (some (.tup [.one (.int .i64),.one .bool])),Mv 12 14,Ex 15 12 0,Ex 16 12 1,As 8 15,As 9 16])
 (.seq (Rg [0,5,6,8,9] [Ro 18 (.load 4 s4 (T 5)),Ca 19 64 [T 18] (some (.tup [.one (.int .i64),.one .bool])),Mv 17 19,Ex 20 17 0,Ex 21 17 1,As 10 20,As 11 21])
 (.seq (.seq (Rg [0,6,8,9,10,11] [Mv 22 9,Ol 23 (.unOp .not 4 (T 22)),Mv 24 23,Gf 25 24 (.move (T 11)),Gf 26 24 (.unOp .not 4 (T 25)),Ol 27 (.pick (T 24) (.const (.bool true)) (T 26))])
 (.cond (T 27) (.seq (Rg [6] [Ro 28 (.build z2 []),Sr 2 6 28,Ac 7 16])
 .ret)
 .skip))
 (.seq (.seq (Rg [0,6,8,10] [Mv 29 0])
 (.cond (T 29) (Rg [6,8,10] [Mv 30 8,Ol 31 (.unOp .neg 2 (T 30)),As 8 31])
 .skip))
 (.seq (Rg [6,8,10] [Mv 32 8,Mv 33 10,Ro 34 (.build z2 [(0,1,(T 32)),(1,1,(T 33))]),Sr 2 6 34,Ac 7 0])
 .ret))))),
 [.agg 6 2 [.int .i64,.int .i64],.tmp 7],
 [],
 []⟩
theorem r45_ok:resFun (progU ()) hint live 45 Try.f45=some r45:=by kernel_rfl
def r46 : RFun :=
⟨.seq (Rg [0] [Bo 1 2 0,Ac 2 0,Ac 3 0])
 (.seq (.seq (Rg [1] [Ld 4 1,Ca 5 61 [T 4] vI,Bc 6 .neq 3 5 .i64 0])
 (.cond (T 6) (.seq (Rg [1] [Ld 7 1,Ca 8 61 [T 7] vI,Ac 2 0,As 3 8])
 .ret)
 .skip))
 (.seq (Rg [1] [Fa 9 0 1,L1 10 9,Fa 11 1 1,L1 12 11,Ca 13 65 [T 10,T 12] vI,As 2 13,Ac 3 0])
 .ret)),
 [.tmp 2,.tmp 3],
 [],
 []⟩
theorem r46_ok:resFun (progU ()) hint live 46 Try.f46=some r46:=by kernel_rfl
def r47 : RFun :=
⟨.seq (Rg [0,1] [Bo 2 2 0,Bo 3 2 1,Nw 4 2 z2,Ac 5 0])
 (.seq (.seq (Rg [2,3,4] [Ld 6 2,Ld 7 3,Ca 8 37 [T 6,T 7] vI,Bc 9 .neq 3 8 .i64 0])
 (.cond (T 9) (.seq (Rg [2,3,4] [Ro 10 (.build z2 []),Ld 11 2,Ld 12 3,Ca 13 37 [T 11,T 12] vI,Sr 2 4 10,As 5 13])
 .ret)
 .skip))
 (.seq (.draw (some [2,3,4]) 8 [Db (Ld 14 2) 0 2 [3,4,5,6,7],Db (Ld 15 3) 1 3 [2,3,4,5,6,7],⟨Ca 16 66 [T 15] (some (.val (.agg s2))),2,.all,[3,4,5,6,7],false,false⟩,⟨Ca 17 19 [T 14,T 16] (some (.tup [.agg s2,.one (.int .i64)])),3,.all,[4,5,6,7],false,false⟩,Dr (Ex 18 17 0) 4 [6,7],Dr (Ex 19 17 1) 5 [6,7],⟨Sr 2 4 18,6,.blk (T 4),[7],true,true⟩,Dr (As 5 19) 7 []])
 .ret)),
 [.agg 4 2 [.int .i64,.int .i64],.tmp 5],
 [],
 []⟩
theorem r47_ok:resFun (progU ()) hint live 47 Try.f47=some r47:=by kernel_rfl
def r48 : RFun :=
⟨.seq (Rg [0] [Ol 2 (.assign (.const (.slice none 0 0))),Ac 3 0])
 (.seq (Rg [0,2] [Ac 3 1])
 (.seq (.seq (Rg [0,2,3] [Mv 9 0,Ro 10 (.lenS (T 9)),Ol 11 (.move (Ci 0))])
 (.block 0 (.loop 3 (some [0,2,3,9,10,11]) (some [0,2,3,9,10,11]))))
 (.seq (.seq (Rg [0,2,3] [Mv 25 0,Ro 26 (.lenS (T 25)),Ol 27 (.move (Ci 0))])
 (.block 2 (.loop 9 (some [2,3,25,26,27]) (some [2,3,25,26,27]))))
 (.seq (Rg [2,3] [Mv 42 2,Mv 43 3,As 2 42,As 3 43])
 .ret)))),
 [.tmp 2,.tmp 3],
 [(3,⟨some [0,2,3,9,10,11],some [0,2,3,9,10,11],.seq (Rg [0,2,3,9,10,11] [Bt 12 .lss 3 11 10])
 (.seq (.cond (T 12) .skip
 (.exit 0 (some [0,2,3])))
 (.seq (.block 1 (.seq (Rg [0,2,3,9,10,11] [Ix 13 2 9 11,Ld 14 13,Nw 5 2 z2,Sr 2 5 14])
 (.seq (Rg [0,2,3,5,9,10,11] [Fa 15 1 5,L1 16 15,As 6 16])
 (Rg [0,2,3,6,9,10,11] [Mv 17 3,Mv 18 6,Mv 19 3,Mv 20 6,Ca 21 67 [T 19,T 20] vI,Bt 22 .quo 3 18 21,Bt 23 .mul 3 17 22,As 3 23]))))
 (Rg [0,2,3,9,10,11] [Bc 24 .add 3 11 .i64 1,Mv 11 24])))⟩),(9,⟨some [2,3,25,26,27],some [2,3,25,26,27],.seq (Rg [2,3,25,26,27] [Bt 28 .lss 3 27 26])
 (.seq (.cond (T 28) .skip
 (.exit 2 (some [2,3])))
 (.seq (.block 3 (.seq (Rg [2,3,25,26,27] [Ix 29 2 25 27,Ld 30 29,Nw 8 2 z2,Sr 2 8 30])
 (.draw (some [2,3,8,25,26,27]) 11 [Dr (Mv 31 2) 0 [9,10],Dr (Fa 32 0 8) 1 [2,7,8,9,10],Db (L1 33 32) 2 32 [7,8,9,10],Dr (Mv 34 3) 3 [6,7,8,9,10],Dr (Fa 35 1 8) 4 [5,6,7,8,9,10],Db (L1 36 35) 5 35 [6,7,8,9,10],Dr (Bt 37 .quo 3 34 36) 6 [7,8,9,10],Dr (Bt 38 .mul 3 33 37) 7 [8,9,10],⟨Ro 39 (.buildSlice 1 1 [.int .i64 0] [(0,1,(T 38))]),8,.new false,[9,10],false,true⟩,⟨⟨some 40,none,.op false (.old (.call ⟨.builtin .append,#[T 31,T 39],#[27,27]⟩))⟩,9,.app [T 31,T 39],[10],false,false⟩,Dr (As 2 40) 10 []])))
 (Rg [2,3,25,26,27] [Bc 41 .add 3 27 .i64 1,Mv 27 41])))⟩)],
 []⟩
theorem r48_ok:resFun (progU ()) hint live 48 Try.f48=some r48:=by kernel_rfl
def r50 : RFun :=
⟨.seq (Rg [0,1] [Nw 4 2 z2,Ac 5 0])
 (.seq (.seq (Rg [0,1,4] [Mv 9 1,Bc 10 .eql 2 9 .i64 0])
 (.cond (T 10) (.seq (Rg [4] [Ro 11 (.build z2 []),Sr 2 4 11,Ac 5 18])
 .ret)
 .skip))
 (.seq (Rg [0,1,4] [Mv 12 0,Ca 13 71 [T 12] (some (.val (.one (.int .u64)))),Mv 14 1,Ca 15 71 [T 14] (some (.val (.one (.int .u64)))),As 6 13,As 7 15])
 (.seq (Rg [0,1,4,6,7] [Mv 16 6,Mv 17 7,Ca 18 72 [T 16,T 17] (some (.val (.one (.int .u64)))),As 8 18])
 (.seq (.draw (some [0,1,4,6,7,8]) 16 [Dr (Mv 19 0) 0 [1,4,11,12,13,14,15],Dr (Bc 20 .lss 2 19 .i64 0) 1 [4,11,12,13,14,15],Dr (Mv 21 1) 2 [3,4,11,12,13,14,15],Dr (Bc 22 .lss 2 21 .i64 0) 3 [4,11,12,13,14,15],Dr (Bt 23 .neq 4 20 22) 4 [11,12,13,14,15],Dr (Mv 24 6) 5 [7,11,12,13,14,15],Dr (Mv 25 8) 6 [7,11,12,13,14,15],Dr (Bt 26 .quo 69 24 25) 7 [11,12,13,14,15],Dr (Mv 27 7) 8 [10,11,12,13,14,15],Dr (Mv 28 8) 9 [10,11,12,13,14,15],Dr (Bt 29 .quo 69 27 28) 10 [11,12,13,14,15],⟨Ca 30 73 [T 23,T 26,T 29] (some (.tup [.agg s2,.one (.int .i64)])),11,.all,[12,13,14,15],false,false⟩,Dr (Ex 31 30 0) 12 [14,15],Dr (Ex 32 30 1) 13 [14,15],⟨Sr 2 4 31,14,.blk (T 4),[15],true,true⟩,Dr (As 5 32) 15 []])
 .ret)))),
 [.agg 4 2 [.int .i64,.int .i64],.tmp 5],
 [],
 []⟩
theorem r50_ok:resFun (progU ()) hint live 50 Try.f50=some r50:=by kernel_rfl
def r53 : RFun :=
⟨.seq (Rg [0,1] [Ac 4 0])
 (.seq (Rg [0,1] [Ac 5 0])
 (.seq (.seq (Rg [0,1,5] [Mv 8 0,Ro 9 (.lenS (T 8)),Ol 10 (.binOp .shl 3 (Ci 1) (T 9) 3),Ol 11 (.move (Ci 0))])
 (.block 0 (.loop 3 none (some [0,1,5,10,11]))))
 (.seq (Rg [5] [Mv 41 5,As 4 41])
 .ret))),
 [.tmp 4],
 [(3,⟨none,some [0,1,5,10,11],.seq (Rg [0,1,5,10,11] [Bt 12 .lss 3 11 10])
 (.seq (.cond (T 12) .skip
 (.exit 0 (some [5])))
 (.seq (.block 1 (.seq (Rg [0,1,5,10,11] [Mv 13 11,As 6 13])
 (.seq (.seq (Rg [0,1,5,6,10,11] [Mv 14 6,Ro 15 (.convI .u64 (T 14)),Ca 16 79 [T 15] vI,Mv 17 1,Bt 18 .neq 3 16 17])
 (.cond (T 18) (.exit 1 (some [0,1,5,10,11]))
 .skip))
 (.seq (Rg [0,1,5,6,10,11] [Mv 19 0,Ro 20 (.ixS 1 (T 19) (Ci 0)),Ro 21 (.load1 .slice (T 20)),Ro 22 (.lenS (T 21)),Ol 23 (.binOp .shl 3 (Ci 1) (T 22) 3),Ol 24 (.move (Ci 0))])
 (.block 2 (.loop 7 none (some [0,1,5,6,10,11,23,24])))))))
 (Rg [0,1,5,10,11] [Bc 40 .add 3 11 .i64 1,Mv 11 40])))⟩),(7,⟨none,some [0,1,5,6,10,11,23,24],.seq (Rg [0,1,5,6,10,11,23,24] [Bt 25 .lss 3 24 23])
 (.seq (.cond (T 25) .skip
 (.exit 2 (some [0,1,5,10,11])))
 (.seq (.block 3 (.seq (Rg [0,1,5,6,10,11,23,24] [Mv 26 24,As 7 26])
 (.seq (Rg [0,1,5,6,7,10,11,23,24] [Mv 27 7,Ro 28 (.convI .u64 (T 27)),Ca 29 79 [T 28] vI,Mv 30 1,Bt 31 .eql 3 29 30])
 (.cond (T 31) (Rg [0,1,5,6,7,10,11,23,24] [Mv 32 5,Mv 33 0,Mv 34 6,Mv 35 7,Ca 36 80 [T 33,T 34,T 35] (some (.val (.one .ptr))),Ca 37 81 [T 36] vI,Ca 38 67 [T 32,T 37] vI,As 5 38])
 .skip))))
 (Rg [0,1,5,6,10,11,23,24] [Bc 39 .add 3 24 .i64 1,Mv 24 39])))⟩)],
 []⟩
theorem r53_ok:resFun (progU ()) hint live 53 Try.f53=some r53:=by kernel_rfl
def r55 : RFun :=
⟨.seq (Rg [0] [Ol 2 (.assign (.const (.slice none 0 0)))])
 (.seq (Rg [0] [Ro 3 (.new 1 [.slice none 0 0])])
 (.seq (.seq (Rg [0,3] [Mv 7 0,Ro 8 (.lenS (T 7)),Ol 9 (.move (Ci 0))])
 (.block 0 (.loop 3 none (some [0,3,7,8,9]))))
 (.seq (Rg [3] [Fa 28 0 3,Ro 29 (.load1 .slice (T 28)),As 2 29])
 .ret))),
 [.tmp 2],
 [(3,⟨none,some [0,3,7,8,9],.seq (Rg [0,3,7,8,9] [Bt 10 .lss 3 9 8])
 (.seq (.cond (T 10) .skip
 (.exit 0 (some [3])))
 (.seq (.block 1 (.seq (Rg [0,3,7,8,9] [Mv 11 9,Ix 12 1 7 9,Ro 13 (.load1 .slice (T 12)),As 4 11,As 5 13])
 (.seq (Rg [0,3,4,5,7,8,9] [Mv 14 5,Ca 15 57 [T 14] (some (.val (.one .slice))),Mv 16 0,Ro 17 (.lenS (T 16)),⟨some 18,none,.op false (.old (.call ⟨.builtin .append,#[T 15,T 17],#[27,3]⟩))⟩,As 6 18])
 (.seq (Rg [0,3,4,5,6,7,8,9] [Mv 19 6,Mv 20 5,Ro 21 (.lenS (T 20)),Mv 22 4,Bt 23 .add 3 21 22,Ix 24 1 19 23,⟨none,none,.op false (.store 1 (T 24) (Ci 1))⟩])
 (Rg [0,3,6,7,8,9] [Mv 25 6,Ca 26 85 [T 3,T 25] (some (.tup []))])))))
 (Rg [0,3,7,8,9] [Bc 27 .add 3 9 .i64 1,Mv 9 27])))⟩)],
 []⟩
theorem r55_ok:resFun (progU ()) hint live 55 Try.f55=some r55:=by kernel_rfl
def r56 : RFun :=
⟨.seq (Rg [0] [Ac 2 0])
 (.seq (.seq (Rg [0] [Mv 5 0,Ro 6 (.lenS (T 5)),Ol 7 (.move (Ci 0))])
 (.block 0 (.loop 2 none (some [0,5,6,7]))))
 (.seq (Rg [0] [Mv 16 0,Ro 17 (.lenS (T 16)),As 2 17])
 .ret)),
 [.tmp 2],
 [(2,⟨none,some [0,5,6,7],.seq (Rg [0,5,6,7] [Bt 8 .lss 3 7 6])
 (.seq (.cond (T 8) .skip
 (.exit 0 (some [0])))
 (.seq (.block 1 (.seq (Rg [0,5,6,7] [Mv 9 7,Ix 10 1 5 7,L1 11 10,As 3 9,As 4 11])
 (.seq (Rg [0,3,4,5,6,7] [Mv 12 4,Bc 13 .neq 3 12 .i64 0])
 (.cond (T 13) (.seq (Rg [3] [Mv 14 3,As 2 14])
 .ret)
 .skip))))
 (Rg [0,5,6,7] [Bc 15 .add 3 7 .i64 1,Mv 7 15])))⟩)],
 []⟩
theorem r56_ok:resFun (progU ()) hint live 56 Try.f56=some r56:=by kernel_rfl
def r57 : RFun :=
⟨.seq (Rg [0] [Ol 2 (.assign (.const (.slice none 0 0)))])
 (.seq (.seq (Rg [0] [Mv 3 0,Ol 4 (.binOp .eql 27 (T 3) (.const (.slice none 0 0)) 27)])
 (.cond (T 4) (.seq (Rg [] [Ol 2 (.assign (.const (.slice none 0 0)))])
 .ret)
 .skip))
 (.seq (Rg [0] [Ro 5 (.buildSlice 1 0 [] []),Mv 6 0,⟨some 7,none,.op false (.old (.call ⟨.builtin .append,#[T 5,T 6],#[27,27]⟩))⟩,As 2 7])
 .ret)),
 [.tmp 2],
 [],
 []⟩
theorem r57_ok:resFun (progU ()) hint live 57 Try.f57=some r57:=by kernel_rfl
