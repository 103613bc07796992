import Derived.Test.YtnokkniofajnhaaSeat0
import Derived.Test.YtnokkniofajnhaaSymS
set_option linter.unusedSimpArgs false
set_option linter.unusedVariables false
namespace Go.Proofs.Ytnokkniofajnhaa
open Go.Sim
set_option maxRecDepth 100000
def r29 : RFun :=
⟨.seq (Rg [0,1] [Bo 2 2 0,Ol 4 (.assign (.const (.bool false)))])
 (.seq (Rg [1,2] [Ld 5 2,Ca 6 28 [T 5] vI,Bc 7 .eql 3 6 .i64 0,Mv 8 7,Gt 9 8 (.move (T 1)),Gt 10 8 (.unOp .neg 2 (T 9)),Ht 11 8 (.fieldAddr 0 (T 2)),Ht 12 8 (.load1 (.int .i64) (T 11)),Gt 13 8 (.binOp .leq 2 (T 10) (T 12) 2),Ol 14 (.pick (T 8) (T 13) (.const (.bool false))),Mv 15 14,Ht 16 15 (.fieldAddr 0 (T 2)),Ht 17 15 (.load1 (.int .i64) (T 16)),Gt 18 15 (.move (T 1)),Gt 19 15 (.binOp .leq 2 (T 17) (T 18) 2),Ol 20 (.pick (T 15) (T 19) (.const (.bool false))),Mv 21 20,Ht 22 21 (.fieldAddr 1 (T 2)),Ht 23 21 (.load1 (.int .i64) (T 22)),Gt 24 21 (.move (T 1)),Gt 25 21 (.binOp .leq 2 (T 23) (T 24) 2),Ol 26 (.pick (T 21) (T 25) (.const (.bool false))),As 4 26])
 .ret),
 [.tmp 4],
 [],
 []⟩
theorem r29_ok : resFun (progU ()) hint live 29 Try.f29 = some r29:=by kernel_rfl
def r31 : RFun :=
⟨.seq (Rg [0,1] [Nw 4 2 z2,Ac 5 0])
 (.seq (.seq (Rg [0,1,4] [Mv 7 1,Bc 8 .eql 2 7 .i64 0])
 (.cond (T 8) (.seq (Rg [4] [Ro 9 (.build z2 []),Sr 2 4 9,Ac 5 18])
 .ret)
 .skip))
 (.seq (Rg [0,1,4] [Mv 10 0,Ca 11 48 [T 10] (some (.val (.one (.int .u64)))),Mv 12 1,Ca 13 48 [T 12] (some (.val (.one (.int .u64)))),Ca 14 47 [T 11,T 13] (some (.val (.one (.int .u64)))),As 6 14])
 (.seq (Rg [0,1,4,6] [Mv 15 0,Bc 16 .lss 2 15 .i64 0,Mv 17 1,Bc 18 .lss 2 17 .i64 0,Bt 19 .neq 4 16 18,Mv 20 0,Ca 21 48 [T 20] (some (.val (.one (.int .u64)))),Mv 22 6,Bt 23 .quo 80 21 22,Ca 24 52 [T 23] (some (.val (.agg s4))),Mv 25 1,Ca 26 48 [T 25] (some (.val (.one (.int .u64)))),Mv 27 6,Bt 28 .quo 80 26 27,Ca 29 52 [T 28] (some (.val (.agg s4))),Ca 30 51 [T 19,T 24,T 29] (some (.tup [.agg s2,.one (.int .i64)])),Ex 31 30 0,Ex 32 30 1,Sr 2 4 31,As 5 32])
 .ret))),
 [.agg 4 2 [.int .i64,.int .i64],.tmp 5],
 [],
 []⟩
theorem r31_ok : resFun (progU ()) hint live 31 Try.f31 = some r31:=by kernel_rfl
def r32 : RFun :=
⟨.seq (Rg [0] [Bo 1 2 0,Ac 2 0])
 (.seq (.seq (Rg [1] [Fa 3 1 1,L1 4 3,Bc 5 .lss 2 4 .i64 1,Mv 6 5,Hf 7 6 (.fieldAddr 1 (T 1)),Hf 8 6 (.load1 (.int .i64) (T 7)),Gf 9 6 (.binOp .gtr 2 (T 8) (Ci 1000000000000000000) 2),Ol 10 (.pick (T 6) (.const (.bool true)) (T 9)),Mv 11 10,Hf 12 11 (.fieldAddr 0 (T 1)),Hf 13 11 (.load1 (.int .i64) (T 12)),Gf 14 11 (.binOp .lss 2 (T 13) (.const (.int .i64 (-1000000000000000000))) 2),Ol 15 (.pick (T 11) (.const (.bool true)) (T 14)),Mv 16 15,Hf 17 16 (.fieldAddr 0 (T 1)),Hf 18 16 (.load1 (.int .i64) (T 17)),Gf 19 16 (.binOp .gtr 2 (T 18) (Ci 1000000000000000000) 2),Ol 20 (.pick (T 16) (.const (.bool true)) (T 19))])
 (.cond (T 20) (.seq (Rg [] [Ac 2 8])
 .ret)
 .skip))
 (.seq (.seq (.draw (some [1]) 8 [Dr (Fa 21 0 1) 0 [1,2,5,6,7],Db (L1 22 21) 1 21 [2,5,6,7],Dr (Fa 24 1 1) 3 [4,5,6,7],Db (L1 25 24) 4 24 [5,6,7],⟨Ca 23 54 [T 22] (some (.val (.one (.int .u64)))),2,.all,[5,6,7],false,false⟩,⟨Ca 26 54 [T 25] (some (.val (.one (.int .u64)))),5,.all,[6,7],false,false⟩,⟨Ca 27 53 [T 23,T 26] (some (.val (.one (.int .u64)))),6,.all,[7],false,false⟩,Dr (Bc 28 .neq 80 27 .u64 1) 7 []])
 (.cond (T 28) (.seq (Rg [] [Ac 2 8])
 .ret)
 .skip))
 (.seq (Rg [] [Ac 2 0])
 .ret))),
 [.tmp 2],
 [],
 []⟩
theorem r32_ok : resFun (progU ()) hint live 32 Try.f32 = some r32:=by kernel_rfl
def r33 : RFun :=
⟨.seq (Rg [0,1] [Bo 2 2 0,Ol 4 (.assign (.const (.bool false)))])
 (.seq (Rg [1,2] [Ld 5 2,Ca 6 32 [T 5] vI,Bc 7 .eql 26 6 .i64 0,Mv 8 7,Ht 9 8 (.fieldAddr 0 (T 2)),Ht 10 8 (.load1 (.int .i64) (T 9)),Gt 11 8 (.move (T 1)),Gt 12 8 (.unOp .neg 2 (T 11)),Gt 13 8 (.binOp .geq 2 (T 10) (T 12) 2),Ol 14 (.pick (T 8) (T 13) (.const (.bool false))),Mv 15 14,Ht 16 15 (.fieldAddr 0 (T 2)),Ht 17 15 (.load1 (.int .i64) (T 16)),Gt 18 15 (.move (T 1)),Gt 19 15 (.binOp .leq 2 (T 17) (T 18) 2),Ol 20 (.pick (T 15) (T 19) (.const (.bool false))),Mv 21 20,Ht 22 21 (.fieldAddr 1 (T 2)),Ht 23 21 (.load1 (.int .i64) (T 22)),Gt 24 21 (.move (T 1)),Gt 25 21 (.binOp .leq 2 (T 23) (T 24) 2),Ol 26 (.pick (T 21) (T 25) (.const (.bool false))),As 4 26])
 .ret),
 [.tmp 4],
 [],
 []⟩
theorem r33_ok : resFun (progU ()) hint live 33 Try.f33 = some r33:=by kernel_rfl
def r34 : RFun :=
⟨.seq (Rg [0,1] [Bo 2 2 0,Bo 3 2 1,Ac 4 0])
 (.seq (Rg [2,3] [Ld 8 2,Ld 9 3,Ca 10 55 [T 8,T 9] (some (.tup [.one (.int .i64),.one (.int .i64)])),Mv 7 10,Ex 11 7 0,Ex 12 7 1,As 5 11,As 6 12])
 (.seq (Rg [5] [Mv 13 5,As 4 13])
 .ret)),
 [.tmp 4],
 [],
 []⟩
theorem r34_ok : resFun (progU ()) hint live 34 Try.f34 = some r34:=by kernel_rfl
def r35 : RFun :=
⟨.seq (Rg [0,1] [Bo 3 2 1,Nw 4 2 z2,Ac 5 0])
 (.seq (Rg [0,3,4] [Ac 6 1])
 (.seq (.block 0 (.loop 2 (some [0,3,4,6]) (some [0,3,4,6])))
 (.seq (.draw (some [0,3,4,6]) 13 [Dr (Mv 32 0) 0 [3,4,11,12],Dr (Mv 33 6) 1 [2,3,4,11,12],Dr (Bc 34 .sub 3 33 .i64 1) 2 [3,4,11,12],Dr (Ix 35 4 32 34) 3 [4,11,12],Db (Ro 36 (.load 4 [.int .i64,.int .i64,.int .i64,.int .i64] (T 35))) 4 35 [11,12],Dr (Mv 37 0) 5 [7,8,12],Dr (Mv 38 6) 6 [7,8,12],Dr (Ix 39 4 37 38) 7 [8,12],Db (Ro 40 (.load 4 [.int .i64,.int .i64,.int .i64,.int .i64] (T 39))) 8 39 [12],⟨Nw 7 4 [.int .i64 0,.int .i64 0,.int .i64 0,.int .i64 0],9,.new true,[11,12],false,true⟩,⟨Nw 8 4 [.int .i64 0,.int .i64 0,.int .i64 0,.int .i64 0],10,.new true,[11,12],false,true⟩,⟨Sr 4 7 36,11,.blk (T 7),[12],true,true⟩,⟨Sr 4 8 40,12,.blk (T 8),[],true,true⟩])
 (.seq (Rg [3,4,7,8] [Fa 42 2 8,Ld 43 42,Fa 44 2 7,Ld 45 44,Ca 46 56 [T 43,T 45] (some (.tup [.agg s2,.one (.int .i64)])),Mv 41 46,Ex 47 41 0,Ex 48 41 1,Nw 9 2 z2,Sr 2 9 47,As 10 48])
 (.seq (.seq (Rg [3,4,7,8,9,10] [Mv 49 10,Bc 50 .neq 26 49 .i64 0])
 (.cond (T 50) (.seq (Rg [4,10] [Ro 51 (.build z2 []),Mv 52 10,Sr 2 4 51,As 5 52])
 .ret)
 .skip))
 (.seq (Rg [3,4,7,8,9] [Ld 54 3,Fa 55 0 7,Ld 56 55,Ca 57 56 [T 54,T 56] (some (.tup [.agg s2,.one (.int .i64)])),Mv 53 57,Ex 58 53 0,Ex 59 53 1,Nw 11 2 z2,Sr 2 11 58,As 10 59])
 (.seq (.seq (Rg [4,7,8,9,10,11] [Mv 60 10,Bc 61 .neq 26 60 .i64 0])
 (.cond (T 61) (.seq (Rg [4,10] [Ro 62 (.build z2 []),Mv 63 10,Sr 2 4 62,As 5 63])
 .ret)
 .skip))
 (.seq (Rg [4,7,8,9,11] [Fa 65 0 8,Ld 66 65,Fa 67 0 7,Ld 68 67,Ca 69 56 [T 66,T 68] (some (.tup [.agg s2,.one (.int .i64)])),Mv 64 69,Ex 70 64 0,Ex 71 64 1,Nw 12 2 z2,Sr 2 12 70,As 10 71])
 (.seq (.seq (Rg [4,7,9,10,11,12] [Mv 72 10,Bc 73 .neq 26 72 .i64 0])
 (.cond (T 73) (.seq (Rg [4,10] [Ro 74 (.build z2 []),Mv 75 10,Sr 2 4 74,As 5 75])
 .ret)
 .skip))
 (.seq (Rg [4,7,9,11,12] [Ld 77 9,Ld 78 11,Ca 79 57 [T 77,T 78] (some (.tup [.agg s2,.one (.int .i64)])),Mv 76 79,Ex 80 76 0,Ex 81 76 1,Nw 13 2 z2,Sr 2 13 80,As 10 81])
 (.seq (.seq (Rg [4,7,10,12,13] [Mv 82 10,Bc 83 .neq 26 82 .i64 0])
 (.cond (T 83) (.seq (Rg [4,10] [Ro 84 (.build z2 []),Mv 85 10,Sr 2 4 84,As 5 85])
 .ret)
 .skip))
 (.seq (Rg [4,7,12,13] [Ld 87 13,Ld 88 12,Ca 89 43 [T 87,T 88] (some (.tup [.agg s2,.one (.int .i64)])),Mv 86 89,Ex 90 86 0,Ex 91 86 1,Nw 14 2 z2,Sr 2 14 90,As 10 91])
 (.seq (.seq (Rg [4,7,10,14] [Mv 92 10,Bc 93 .neq 26 92 .i64 0])
 (.cond (T 93) (.seq (Rg [4,10] [Ro 94 (.build z2 []),Mv 95 10,Sr 2 4 94,As 5 95])
 .ret)
 .skip))
 (.seq (Rg [4,7,14] [Fa 96 2 7,Ld 97 96,Ld 98 14,Ca 99 58 [T 97,T 98] (some (.tup [.agg s2,.one (.int .i64)])),Ex 100 99 0,Ex 101 99 1,Sr 2 4 100,As 5 101])
 .ret)))))))))))))),
 [.agg 4 2 [.int .i64,.int .i64],.tmp 5],
 [(2,⟨some [0,3,4,6],some [0,3,4,6],.seq (.seq (.draw (some [0,3,4,6]) 15 [Dr (Mv 15 6) 0 [4,5,6,7,8,9,10,11,12,13,14],Dr (Mv 16 0) 1 [2,3,4,5,6,7,8,9,10,11,12,13,14],Dr (Ro 17 (.lenS (T 16))) 2 [3,4,5,6,7,8,9,10,11,12,13,14],Dr (Bc 18 .sub 3 17 .i64 1) 3 [4,5,6,7,8,9,10,11,12,13,14],Dr (Bt 19 .lss 3 15 18) 4 [5,6,7,8,9,10,11,12,13,14],Dr (Mv 20 19) 5 [6,7,8,9,10,11,12,13,14],⟨Ht 21 20 (.load 2 s2 (T 3)),6,.blk (T 3),[12,13,14],false,true⟩,⟨Gt 22 20 (.move (T 0)),7,.none,[9,10,11,12,13,14],false,true⟩,⟨Gt 23 20 (.move (T 6)),8,.none,[9,10,11,12,13,14],false,true⟩,⟨Ht 24 20 (.ixS 4 (T 22) (T 23)),9,.none,[10,11,12,13,14],false,true⟩,⟨Ht 25 20 (.fieldAddr 0 (T 24)),10,.none,[11,12,13,14],false,true⟩,⟨Ht 26 20 (.load 2 s2 (T 25)),11,.blk (T 25),[12,13,14],false,true⟩,⟨⟨some 27,some (20,true),.call (.func 34) [T 21,T 26] vI⟩,12,.all,[13,14],false,false⟩,⟨Gt 28 20 (.binOp .gtr 3 (T 27) (Ci 0) 3),13,.none,[14],false,true⟩,Dr (Ol 29 (.pick (T 20) (T 28) (.const (.bool false)))) 14 []])
 (.cond (T 29) .skip
 (.exit 0 (some [0,3,4,6]))))
 (.block 1 (Rg [0,3,4,6] [Mv 30 6,Bc 31 .add 3 30 .i64 1,As 6 31]))⟩)],
 []⟩
theorem r35_ok : resFun (progU ()) hint live 35 Try.f35 = some r35:=by kernel_rfl
def r36 : RFun :=
⟨.seq (Rg [0,1] [Bo 3 2 1,Nw 4 2 z2])
 (.seq (.seq (Rg [0,3,4] [Mv 6 0,Ro 7 (.lenS (T 6)),Bc 8 .sub 3 7 .i64 1,As 5 8])
 (.block 0 (.loop 2 (some [0,3,4,5]) (some [0,3,4,5]))))
 (.seq (Rg [4] [Ro 33 (.build z2 []),Sr 2 4 33])
 .ret)),
 [.agg 4 2 [.int .i64,.int .i64]],
 [(2,⟨some [0,3,4,5],some [0,3,4,5],.seq (.seq (Rg [0,3,4,5] [Mv 9 5,Bc 10 .gtr 3 9 .i64 0])
 (.cond (T 10) .skip
 (.exit 0 (some [4]))))
 (.seq (.block 1 (.seq (.draw (some [0,3,4,5]) 9 [Db (Ld 13 3) 0 3 [7,8],Dr (Mv 14 0) 1 [4,5,6,7,8],Dr (Mv 15 5) 2 [3,4,5,6,7,8],Dr (Bc 16 .sub 3 15 .i64 1) 3 [4,5,6,7,8],Dr (Ix 17 4 14 16) 4 [5,6,7,8],Dr (Fa 18 0 17) 5 [6,7,8],Db (Ld 19 18) 6 18 [7,8],⟨Ca 20 27 [T 13,T 19] vB,7,.all,[8],false,false⟩,Dr (Ol 21 (.unOp .not 4 (T 20))) 8 []])
 (.cond (T 21) (.seq (.draw (some [0,3,4,5]) 12 [Dr (Mv 22 0) 0 [3,4,10,11],Dr (Mv 23 5) 1 [2,3,4,10,11],Dr (Bc 24 .sub 3 23 .i64 1) 2 [3,4,10,11],Dr (Ix 25 4 22 24) 3 [4,10,11],Db (Ro 26 (.load 4 [.int .i64,.int .i64,.int .i64,.int .i64] (T 25))) 4 25 [10,11],Dr (Mv 27 0) 5 [7,8,10,11],Dr (Mv 28 5) 6 [7,8,10,11],Dr (Ix 29 4 27 28) 7 [8,10,11],Db (Ro 30 (.load 4 [.int .i64,.int .i64,.int .i64,.int .i64] (T 29))) 8 29 [10,11],Db (Ld 31 3) 9 3 [10,11],⟨Ca 32 59 [T 26,T 30,T 31] (some (.val (.agg s2))),10,.all,[11],false,false⟩,⟨Sr 2 4 32,11,.blk (T 4),[],true,true⟩])
 .ret)
 .skip)))
 (Rg [0,3,4,5] [Mv 11 5,Bc 12 .sub 3 11 .i64 1,As 5 12]))⟩)],
 []⟩
theorem r36_ok : resFun (progU ()) hint live 36 Try.f36 = some r36:=by kernel_rfl
def r37 : RFun :=
⟨.seq (Rg [0] [Ol 2 (.assign (.const (.slice none 0 0)))])
 (.seq (Rg [0] [Mv 6 0,Ro 7 (.lenS (T 6)),Ro 8 (.mkSlice 4 [.int .i64 0,.int .i64 0,.int .i64 0,.int .i64 0] (T 7) (T 7)),As 3 8])
 (.seq (.seq (Rg [0,3] [Mv 9 0,Ro 10 (.lenS (T 9)),Ol 11 (.move (Ci 0))])
 (.block 0 (.loop 3 (some [3,9,10,11]) (some [3,9,10,11]))))
 (.seq (Rg [3] [Mv 25 3,As 2 25])
 .ret))),
 [.tmp 2],
 [(3,⟨some [3,9,10,11],some [3,9,10,11],.seq (Rg [3,9,10,11] [Bt 12 .lss 3 11 10])
 (.seq (.cond (T 12) .skip
 (.exit 0 (some [3])))
 (.seq (.block 1 (.seq (Rg [3,9,10,11] [Mv 13 11,Ix 14 4 9 11,Ro 15 (.load 4 [.int .i64,.int .i64,.int .i64,.int .i64] (T 14)),Nw 5 4 [.int .i64 0,.int .i64 0,.int .i64 0,.int .i64 0],As 4 13,Sr 4 5 15])
 (Rg [3,4,5,9,10,11] [Mv 16 3,Mv 17 4,Fa 18 2 5,Ld 19 18,Fa 20 0 5,Ld 21 20,Ro 22 (.build [.int .i64 0,.int .i64 0,.int .i64 0,.int .i64 0] [(0,2,(T 19)),(2,2,(T 21))]),Ix 23 4 16 17,Sr 4 23 22])))
 (Rg [3,9,10,11] [Bc 24 .add 3 11 .i64 1,Mv 11 24])))⟩)],
 []⟩
theorem r37_ok : resFun (progU ()) hint live 37 Try.f37 = some r37:=by kernel_rfl
def r38 : RFun :=
⟨.seq (Rg [0] [Ol 2 (.assign (.const (.slice none 0 0)))])
 (.seq (Rg [0] [Ol 3 (.assign (.const (.slice none 0 0)))])
 (.seq (.seq (Rg [0,3] [Ac 4 0])
 (.block 0 (.loop 3 (some [0,3,4]) (some [0,3,4]))))
 (.seq (Rg [3] [Mv 25 3,As 2 25])
 .ret))),
 [.tmp 2],
 [(3,⟨some [0,3,4],some [0,3,4],.seq (.seq (Rg [0,3,4] [Mv 5 4,Mv 6 0,Ro 7 (.lenS (T 6)),Bt 8 .lss 3 5 7])
 (.cond (T 8) .skip
 (.exit 0 (some [3]))))
 (.seq (.block 1 (.draw (some [0,3,4]) 15 [Dr (Mv 11 3) 0 [13,14],Dr (Mv 12 0) 1 [3,4,5,11,12,13,14],Dr (Mv 13 4) 2 [3,4,5,11,12,13,14],Dr (Ix 14 4 12 13) 3 [4,5,11,12,13,14],Dr (Fa 15 2 14) 4 [5,11,12,13,14],Db (Ld 16 15) 5 15 [11,12,13,14],Dr (Mv 17 0) 6 [8,9,10,11,12,13,14],Dr (Mv 18 4) 7 [8,9,10,11,12,13,14],Dr (Ix 19 4 17 18) 8 [9,10,11,12,13,14],Dr (Fa 20 0 19) 9 [10,11,12,13,14],Db (Ld 21 20) 10 20 [11,12,13,14],Dr (Ro 22 (.build [.int .i64 0,.int .i64 0,.int .i64 0,.int .i64 0] [(0,2,(T 16)),(2,2,(T 21))])) 11 [12,13,14],⟨Ro 23 (.buildSlice 4 1 [.int .i64 0,.int .i64 0,.int .i64 0,.int .i64 0] [(0,4,(T 22))]),12,.new false,[13,14],false,true⟩,⟨⟨some 24,none,.op false (.old (.call ⟨.builtin .append,#[T 11,T 23],#[22,22]⟩))⟩,13,.app [T 11,T 23],[14],false,false⟩,Dr (As 3 24) 14 []]))
 (Rg [0,3,4] [Mv 9 4,Bc 10 .add 3 9 .i64 1,As 4 10]))⟩)],
 []⟩
theorem r38_ok : resFun (progU ()) hint live 38 Try.f38 = some r38:=by kernel_rfl
def r39 : RFun :=
⟨.seq (Rg [0,1] [Ol 4 (.assign (.const (.slice none 0 0)))])
 (.seq (Rg [0,1] [Ol 5 (.assign (.const (.slice none 0 0)))])
 (.seq (.seq (Rg [0,1,5] [Mv 10 0,Ro 11 (.lenS (T 10)),Ol 12 (.move (Ci 0))])
 (.block 0 (.loop 3 (some [0,1,5,10,11,12]) (some [0,1,5,10,11,12]))))
 (.seq (.seq (Rg [0,1,5] [Mv 22 1,Ro 23 (.lenS (T 22)),Ol 24 (.move (Ci 0))])
 (.block 2 (.loop 8 (some [0,5,22,23,24]) (some [0,5,22,23,24]))))
 (.seq (Rg [5] [Mv 55 5,Ca 56 60 [T 55,.func 34] (some (.tup []))])
 (.seq (Rg [5] [Mv 57 5,Ca 58 61 [T 57] (some (.val (.one .slice))),As 4 58])
 .ret))))),
 [.tmp 4],
 [(3,⟨some [0,1,5,10,11,12],some [0,1,5,10,11,12],.seq (Rg [0,1,5,10,11,12] [Bt 13 .lss 3 12 11])
 (.seq (.cond (T 13) .skip
 (.exit 0 (some [0,1,5])))
 (.seq (.block 1 (.seq (Rg [0,1,5,10,11,12] [Ix 14 4 10 12,Ro 15 (.load 4 [.int .i64,.int .i64,.int .i64,.int .i64] (T 14)),Nw 7 4 [.int .i64 0,.int .i64 0,.int .i64 0,.int .i64 0],Sr 4 7 15])
 (Rg [0,1,5,7,10,11,12] [Mv 16 5,Fa 17 2 7,Ld 18 17,Ro 19 (.buildSlice 2 1 z2 [(0,2,(T 18))]),⟨some 20,none,.op false (.old (.call ⟨.builtin .append,#[T 16,T 19],#[69,69]⟩))⟩,As 5 20])))
 (Rg [0,1,5,10,11,12] [Bc 21 .add 3 12 .i64 1,Mv 12 21])))⟩),(8,⟨some [0,5,22,23,24],some [0,5,22,23,24],.seq (Rg [0,5,22,23,24] [Bt 25 .lss 3 24 23])
 (.seq (.cond (T 25) .skip
 (.exit 2 (some [5])))
 (.seq (.block 3 (.seq (Rg [0,5,22,23,24] [Ix 26 4 22 24,Ro 27 (.load 4 [.int .i64,.int .i64,.int .i64,.int .i64] (T 26)),Nw 9 4 [.int .i64 0,.int .i64 0,.int .i64 0,.int .i64 0],Sr 4 9 27])
 (.seq (.draw (some [0,5,9,22,23,24]) 21 [Dr (Mv 28 0) 0 [1,2,3,6,7,8,9,10,11,12,13,14,15,16,17,18,19,20],Dr (Ro 29 (.ixS 4 (T 28) (Ci 0))) 1 [2,3,6,7,8,9,10,11,12,13,14,15,16,17,18,19,20],Dr (Fa 30 2 29) 2 [3,6,7,8,9,10,11,12,13,14,15,16,17,18,19,20],Db (Ld 31 30) 3 30 [6,7,8,9,10,11,12,13,14,15,16,17,18,19,20],Dr (Fa 32 0 9) 4 [5,6,7,8,9,10,11,12,13,14,15,16,17,18,19,20],Db (Ld 33 32) 5 32 [6,7,8,9,10,11,12,13,14,15,16,17,18,19,20],⟨Ca 34 34 [T 31,T 33] vI,6,.all,[7,8,9,10,11,12,13,14,15,16,17,18,19,20],false,false⟩,Dr (Bc 35 .leq 3 34 .i64 0) 7 [8,9,10,11,12,13,14,15,16,17,18,19,20],Dr (Mv 36 35) 8 [9,10,11,12,13,14,15,16,17,18,19,20],⟨Ht 37 36 (.fieldAddr 0 (T 9)),9,.none,[10,18,19,20],false,true⟩,⟨Ht 38 36 (.load 2 s2 (T 37)),10,.blk (T 37),[18,19,20],false,true⟩,⟨Gt 39 36 (.move (T 0)),11,.none,[15,16,17,18,19,20],false,true⟩,⟨Gt 40 36 (.move (T 0)),12,.none,[13,14,15,16,17,18,19,20],false,true⟩,⟨Ht 41 36 (.lenS (T 40)),13,.none,[14,15,16,17,18,19,20],false,true⟩,⟨Gt 42 36 (.binOp .sub 3 (T 41) (Ci 1) 3),14,.none,[15,16,17,18,19,20],false,true⟩,⟨Ht 43 36 (.ixS 4 (T 39) (T 42)),15,.none,[16,17,18,19,20],false,true⟩,⟨Ht 44 36 (.fieldAddr 2 (T 43)),16,.none,[17,18,19,20],false,true⟩,⟨Ht 45 36 (.load 2 s2 (T 44)),17,.blk (T 44),[18,19,20],false,true⟩,⟨⟨some 46,some (36,true),.call (.func 34) [T 38,T 45] vI⟩,18,.all,[19,20],false,false⟩,⟨Gt 47 36 (.binOp .leq 3 (T 46) (Ci 0) 3),19,.none,[20],false,true⟩,Dr (Ol 48 (.pick (T 36) (T 47) (.const (.bool false)))) 20 []])
 (.cond (T 48) (Rg [0,5,9,22,23,24] [Mv 49 5,Fa 50 0 9,Ld 51 50,Ro 52 (.buildSlice 2 1 z2 [(0,2,(T 51))]),⟨some 53,none,.op false (.old (.call ⟨.builtin .append,#[T 49,T 52],#[69,69]⟩))⟩,As 5 53])
 .skip))))
 (Rg [0,5,22,23,24] [Bc 54 .add 3 24 .i64 1,Mv 24 54])))⟩)],
 []⟩
theorem r39_ok : resFun (progU ()) hint live 39 Try.f39 = some r39:=by kernel_rfl
def r40 : RFun :=
⟨.seq (Rg [0,1] [Bo 3 4 1,Ol 4 (.assign (.const (.slice none 0 0)))])
 (.seq (Rg [0,3] [Ac 5 0])
 (.seq (.block 0 (.loop 2 (some [0,3,5]) (some [0,3,5])))
 (.seq (.seq (.draw (some [0,3,5]) 12 [Dr (Mv 23 5) 0 [3,4,5,6,7,8,9,10,11],Dr (Mv 24 0) 1 [2,3,4,5,6,7,8,9,10,11],Dr (Ro 25 (.lenS (T 24))) 2 [3,4,5,6,7,8,9,10,11],Dr (Bt 26 .lss 3 23 25) 3 [4,5,6,7,8,9,10,11],Dr (Mv 27 26) 4 [5,6,7,8,9,10,11],⟨Gt 28 27 (.move (T 0)),5,.none,[7,8,10,11],false,true⟩,⟨Gt 29 27 (.move (T 5)),6,.none,[7,8,10,11],false,true⟩,⟨Ht 30 27 (.ixS 4 (T 28) (T 29)),7,.none,[8,10,11],false,true⟩,⟨Ht 31 27 (.load 4 [.int .i64,.int .i64,.int .i64,.int .i64] (T 30)),8,.blk (T 30),[10,11],false,true⟩,⟨Ht 32 27 (.load 4 [.int .i64,.int .i64,.int .i64,.int .i64] (T 3)),9,.blk (T 3),[10,11],false,true⟩,⟨Gt 33 27 (.binOp .eql 51 (T 31) (T 32) 51),10,.none,[11],false,true⟩,Dr (Ol 34 (.pick (T 27) (T 33) (.const (.bool false)))) 11 []])
 (.cond (T 34) (.seq (Rg [0] [Mv 35 0,As 4 35])
 .ret)
 .skip))
 (.seq (Rg [0,3,5] [Ro 36 (.buildSlice 4 0 [] []),Mv 37 0,Mv 38 5,Ro 39 (.cutS 22 (T 37) none (some (T 38)) none),⟨some 40,none,.op false (.old (.call ⟨.builtin .append,#[T 36,T 39],#[22,22]⟩))⟩,As 6 40])
 (.seq (.draw (some [0,3,5,6]) 9 [Dr (Mv 41 6) 0 [3,7,8],Db (Ro 42 (.load 4 [.int .i64,.int .i64,.int .i64,.int .i64] (T 3))) 1 3 [2,3,7,8],⟨Ro 43 (.buildSlice 4 1 [.int .i64 0,.int .i64 0,.int .i64 0,.int .i64 0] [(0,4,(T 42))]),2,.new false,[3,7,8],false,true⟩,Dr (Mv 45 0) 4 [6,7,8],Dr (Mv 46 5) 5 [6,7,8],Dr (Ro 47 (.cutS 22 (T 45) (some (T 46)) none none)) 6 [7,8],⟨⟨some 44,none,.op false (.old (.call ⟨.builtin .append,#[T 41,T 43],#[22,22]⟩))⟩,3,.app [T 41,T 43],[7,8],false,false⟩,⟨⟨some 48,none,.op false (.old (.call ⟨.builtin .append,#[T 44,T 47],#[22,22]⟩))⟩,7,.app [T 44,T 47],[8],false,false⟩,Dr (As 4 48) 8 []])
 .ret))))),
 [.tmp 4],
 [(2,⟨some [0,3,5],some [0,3,5],.seq (.seq (.draw (some [0,3,5]) 14 [Dr (Mv 7 5) 0 [3,4,5,6,7,8,9,10,11,12,13],Dr (Mv 8 0) 1 [2,3,4,5,6,7,8,9,10,11,12,13],Dr (Ro 9 (.lenS (T 8))) 2 [3,4,5,6,7,8,9,10,11,12,13],Dr (Bt 10 .lss 3 7 9) 3 [4,5,6,7,8,9,10,11,12,13],Dr (Mv 11 10) 4 [5,6,7,8,9,10,11,12,13],⟨Gt 12 11 (.move (T 0)),5,.none,[7,8,9,12,13],false,true⟩,⟨Gt 13 11 (.move (T 5)),6,.none,[7,8,9,12,13],false,true⟩,⟨Ht 14 11 (.ixS 4 (T 12) (T 13)),7,.none,[8,9,12,13],false,true⟩,⟨Ht 15 11 (.fieldAddr 0 (T 14)),8,.none,[9,12,13],false,true⟩,⟨Ht 16 11 (.load 2 s2 (T 15)),9,.blk (T 15),[12,13],false,true⟩,⟨Ht 17 11 (.fieldAddr 0 (T 3)),10,.none,[11,12,13],false,true⟩,⟨Ht 18 11 (.load 2 s2 (T 17)),11,.blk (T 17),[12,13],false,true⟩,⟨⟨some 19,some (11,true),.call (.func 27) [T 16,T 18] vB⟩,12,.all,[13],false,false⟩,Dr (Ol 20 (.pick (T 11) (T 19) (.const (.bool false)))) 13 []])
 (.cond (T 20) .skip
 (.exit 0 (some [0,3,5]))))
 (.block 1 (Rg [0,3,5] [Mv 21 5,Bc 22 .add 3 21 .i64 1,As 5 22]))⟩)],
 []⟩
theorem r40_ok : resFun (progU ()) hint live 40 Try.f40 = some r40:=by kernel_rfl
def r41 : RFun :=
⟨.seq (Rg [0,1] [Nw 4 2 z2,Ac 5 0])
 (.seq (.seq (Rg [0,1,4] [Mv 9 1,Bc 10 .eql 2 9 .i64 0])
 (.cond (T 10) (.seq (Rg [4] [Ro 11 (.build z2 []),Sr 2 4 11,Ac 5 18])
 .ret)
 .skip))
 (.seq (Rg [0,1,4] [Mv 12 0,Ca 13 54 [T 12] (some (.val (.one (.int .u64)))),Mv 14 1,Ca 15 54 [T 14] (some (.val (.one (.int .u64)))),As 6 13,As 7 15])
 (.seq (Rg [0,1,4,6,7] [Mv 16 6,Mv 17 7,Ca 18 53 [T 16,T 17] (some (.val (.one (.int .u64)))),As 8 18])
 (.seq (.draw (some [0,1,4,6,7,8]) 16 [Dr (Mv 19 0) 0 [1,4,11,12,13,14,15],Dr (Bc 20 .lss 2 19 .i64 0) 1 [4,11,12,13,14,15],Dr (Mv 21 1) 2 [3,4,11,12,13,14,15],Dr (Bc 22 .lss 2 21 .i64 0) 3 [4,11,12,13,14,15],Dr (Bt 23 .neq 4 20 22) 4 [11,12,13,14,15],Dr (Mv 24 6) 5 [7,11,12,13,14,15],Dr (Mv 25 8) 6 [7,11,12,13,14,15],Dr (Bt 26 .quo 80 24 25) 7 [11,12,13,14,15],Dr (Mv 27 7) 8 [10,11,12,13,14,15],Dr (Mv 28 8) 9 [10,11,12,13,14,15],Dr (Bt 29 .quo 80 27 28) 10 [11,12,13,14,15],⟨Ca 30 62 [T 23,T 26,T 29] (some (.tup [.agg s2,.one (.int .i64)])),11,.all,[12,13,14,15],false,false⟩,Dr (Ex 31 30 0) 12 [14,15],Dr (Ex 32 30 1) 13 [14,15],⟨Sr 2 4 31,14,.blk (T 4),[15],true,true⟩,Dr (As 5 32) 15 []])
 .ret)))),
 [.agg 4 2 [.int .i64,.int .i64],.tmp 5],
 [],
 []⟩
theorem r41_ok : resFun (progU ()) hint live 41 Try.f41 = some r41:=by kernel_rfl
def r42 : RFun :=
⟨.seq (Rg [0] [Ac 2 0])
 (.seq (.seq (Rg [0] [Mv 5 0,Ro 6 (.lenS (T 5)),Bc 7 .gtr 3 6 .i64 511])
 (.cond (T 7) (.seq (Rg [] [Ac 2 4])
 .ret)
 .skip))
 (.seq (.seq (Rg [0] [Mv 8 0,Ro 9 (.lenS (T 8)),Bc 10 .rem 3 9 .i64 2,Bc 11 .eql 3 10 .i64 0])
 (.cond (T 11) (.seq (Rg [] [Ac 2 8])
 .ret)
 .skip))
 (.seq (.seq (Rg [0] [Mv 12 0,Ro 13 (.lenS (T 12)),Ol 14 (.move (Ci 0))])
 (.block 0 (.loop 6 (some [12,13,14]) (some [12,13,14]))))
 (.seq (Rg [] [Ac 2 0])
 .ret)))),
 [.tmp 2],
 [(6,⟨some [12,13,14],some [12,13,14],.seq (Rg [12,13,14] [Bt 15 .lss 3 14 13])
 (.seq (.cond (T 15) .skip
 (.exit 0 (some [])))
 (.seq (.block 1 (.seq (Rg [12,13,14] [Ix 16 2 12 14,Ld 17 16,Nw 4 2 z2,Sr 2 4 17])
 (.seq (.seq (Rg [4,12,13,14] [Fa 18 1 4,L1 19 18,Bc 20 .lss 3 19 .i64 0,Mv 21 20,Hf 22 21 (.fieldAddr 1 (T 4)),Hf 23 21 (.load1 (.int .i64) (T 22)),Gf 24 21 (.binOp .gtr 3 (T 23) (Ci 256) 3),Ol 25 (.pick (T 21) (.const (.bool true)) (T 24)),Mv 26 25,Hf 27 26 (.fieldAddr 0 (T 4)),Hf 28 26 (.load1 (.int .i64) (T 27)),Hf 29 26 (.fieldAddr 1 (T 4)),Hf 30 26 (.load1 (.int .i64) (T 29)),Gf 31 26 (.binOp .mul 3 (.const (.int .i64 (-9))) (T 30) 3),Gf 32 26 (.binOp .lss 3 (T 28) (T 31) 3),Ol 33 (.pick (T 26) (.const (.bool true)) (T 32)),Mv 34 33,Hf 35 34 (.fieldAddr 0 (T 4)),Hf 36 34 (.load1 (.int .i64) (T 35)),Hf 37 34 (.fieldAddr 1 (T 4)),Hf 38 34 (.load1 (.int .i64) (T 37)),Gf 39 34 (.binOp .mul 3 (Ci 9) (T 38) 3),Gf 40 34 (.binOp .gtr 3 (T 36) (T 39) 3),Ol 41 (.pick (T 34) (.const (.bool true)) (T 40))])
 (.cond (T 41) (.seq (Rg [] [Ac 2 8])
 .ret)
 .skip))
 (.seq (Rg [4,12,13,14] [Fa 42 0 4,L1 43 42,Fa 44 1 4,L1 45 44,Bt 46 .sub 3 43 45,Bc 47 .rem 3 46 .i64 2,Bc 48 .neq 3 47 .i64 0])
 (.cond (T 48) (.seq (Rg [] [Ac 2 8])
 .ret)
 .skip)))))
 (Rg [12,13,14] [Bc 49 .add 3 14 .i64 1,Mv 14 49])))⟩)],
 []⟩
theorem r42_ok : resFun (progU ()) hint live 42 Try.f42 = some r42:=by kernel_rfl
def r43 : RFun :=
⟨.seq (Rg [0,1] [Bo 2 2 0,Bo 3 2 1,Nw 4 2 z2,Ac 5 0])
 (.seq (.seq (Rg [2,3,4] [Ld 8 2,Ld 9 3,Ca 10 63 [T 8,T 9] vI,As 6 10])
 (.seq (Rg [2,3,4,6] [Mv 11 6,Bc 12 .neq 26 11 .i64 0])
 (.cond (T 12) (.seq (Rg [4,6] [Ro 13 (.build z2 []),Mv 14 6,Sr 2 4 13,As 5 14])
 .ret)
 .skip)))
 (.seq (.seq (Rg [2,3,4] [Fa 15 0 3,L1 16 15,Bc 17 .eql 2 16 .i64 0])
 (.cond (T 17) (.seq (Rg [4] [Ro 18 (.build z2 []),Sr 2 4 18,Ac 5 18])
 .ret)
 .skip))
 (.seq (Rg [2,3,4] [Fa 19 1 3,L1 20 19,Fa 21 0 3,L1 22 21,Ro 23 (.build z2 [(0,1,(T 20)),(1,1,(T 22))]),Nw 7 2 z2,Sr 2 7 23])
 (.seq (.seq (Rg [2,3,4,7] [Fa 24 0 3,L1 25 24,Bc 26 .lss 2 25 .i64 0])
 (.cond (T 26) (Rg [2,3,4,7] [Fa 27 1 3,L1 28 27,Ol 29 (.unOp .neg 2 (T 28)),Fa 30 0 3,L1 31 30,Ol 32 (.unOp .neg 2 (T 31)),Ro 33 (.build z2 [(0,1,(T 29)),(1,1,(T 32))]),Sr 2 7 33])
 .skip))
 (.seq (Rg [2,4,7] [Ld 34 2,Ld 35 7,Ca 36 64 [T 34,T 35] (some (.tup [.agg s2,.one (.int .i64)])),Ex 37 36 0,Ex 38 36 1,Sr 2 4 37,As 5 38])
 .ret))))),
 [.agg 4 2 [.int .i64,.int .i64],.tmp 5],
 [],
 []⟩
theorem r43_ok : resFun (progU ()) hint live 43 Try.f43 = some r43:=by kernel_rfl
def r44 : RFun :=
⟨.seq (Rg [0] [Ac 2 0])
 (.seq (.seq (Rg [0] [Mv 5 0,Ro 6 (.lenS (T 5)),Bc 7 .gtr 3 6 .i64 511])
 (.cond (T 7) (.seq (Rg [] [Ac 2 4])
 .ret)
 .skip))
 (.seq (.seq (Rg [0] [Mv 8 0,Ro 9 (.lenS (T 8)),Ca 10 65 [T 9] vB])
 (.cond (T 10) (.seq (Rg [] [Ac 2 8])
 .ret)
 .skip))
 (.seq (.seq (Rg [0] [Ac 3 0])
 (.block 0 (.loop 6 (some [0,3]) (some [0,3]))))
 (.seq (Rg [] [Ac 2 0])
 .ret)))),
 [.tmp 2],
 [(6,⟨some [0,3],some [0,3],.seq (.seq (Rg [0,3] [Mv 11 3,Mv 12 0,Ro 13 (.lenS (T 12)),Bt 14 .lss 3 11 13])
 (.cond (T 14) .skip
 (.exit 0 (some []))))
 (.seq (.block 1 (.seq (Rg [0,3] [Mv 17 0,Mv 18 3,Ix 19 2 17 18,Ld 20 19,Nw 4 2 z2,Sr 2 4 20])
 (.seq (.draw (some [0,3,4]) 33 [Dr (Fa 21 1 4) 0 [1,2,3,4,5,6,7,8,9,10,11,12,13,14,15,16,17,18,19,20,21,22,23,24,25,26,27,28,29,30,31,32],Db (L1 22 21) 1 21 [2,3,4,5,6,7,8,9,10,11,12,13,14,15,16,17,18,19,20,21,22,23,24,25,26,27,28,29,30,31,32],Dr (Bc 23 .lss 3 22 .i64 0) 2 [3,4,5,6,7,8,9,10,11,12,13,14,15,16,17,18,19,20,21,22,23,24,25,26,27,28,29,30,31,32],Dr (Mv 24 23) 3 [4,5,6,7,8,9,10,11,12,13,14,15,16,17,18,19,20,21,22,23,24,25,26,27,28,29,30,31,32],⟨Hf 25 24 (.fieldAddr 1 (T 4)),4,.none,[5,6,7,8,9,10,11,12,13,14,15,16,17,18,19,20,21,22,23,24,25,26,27,28,29,30,31,32],false,true⟩,⟨Hf 26 24 (.load1 (.int .i64) (T 25)),5,.blk (T 25),[6,7,8,9,10,11,12,13,14,15,16,17,18,19,20,21,22,23,24,25,26,27,28,29,30,31,32],false,true⟩,⟨Gf 27 24 (.binOp .gtr 3 (T 26) (Ci 256) 3),6,.none,[7,8,9,10,11,12,13,14,15,16,17,18,19,20,21,22,23,24,25,26,27,28,29,30,31,32],false,true⟩,Dr (Ol 28 (.pick (T 24) (.const (.bool true)) (T 27))) 7 [8,9,10,11,12,13,14,15,16,17,18,19,20,21,22,23,24,25,26,27,28,29,30,31,32],Dr (Mv 29 28) 8 [9,10,11,12,13,14,15,16,17,18,19,20,21,22,23,24,25,26,27,28,29,30,31,32],⟨Hf 30 29 (.fieldAddr 0 (T 4)),9,.none,[10,14,15,16,17,18,19,20,21,22,23,24,25,26,27,28,29,30,31,32],false,true⟩,⟨Hf 31 29 (.load1 (.int .i64) (T 30)),10,.blk (T 30),[14,15,16,17,18,19,20,21,22,23,24,25,26,27,28,29,30,31,32],false,true⟩,⟨Hf 32 29 (.fieldAddr 1 (T 4)),11,.none,[12,13,14,15,16,17,18,19,20,21,22,23,24,25,26,27,28,29,30,31,32],false,true⟩,⟨Hf 33 29 (.load1 (.int .i64) (T 32)),12,.blk (T 32),[13,14,15,16,17,18,19,20,21,22,23,24,25,26,27,28,29,30,31,32],false,true⟩,⟨Gf 34 29 (.binOp .mul 3 (.const (.int .i64 (-9))) (T 33) 3),13,.none,[14,15,16,17,18,19,20,21,22,23,24,25,26,27,28,29,30,31,32],false,true⟩,⟨Gf 35 29 (.binOp .lss 3 (T 31) (T 34) 3),14,.none,[15,16,17,18,19,20,21,22,23,24,25,26,27,28,29,30,31,32],false,true⟩,Dr (Ol 36 (.pick (T 29) (.const (.bool true)) (T 35))) 15 [16,17,18,19,20,21,22,23,24,25,26,27,28,29,30,31,32],Dr (Mv 37 36) 16 [17,18,19,20,21,22,23,24,25,26,27,28,29,30,31,32],⟨Hf 38 37 (.fieldAddr 0 (T 4)),17,.none,[18,22,23,24,25,26,27,28,29,30,31,32],false,true⟩,⟨Hf 39 37 (.load1 (.int .i64) (T 38)),18,.blk (T 38),[22,23,24,25,26,27,28,29,30,31,32],false,true⟩,⟨Hf 40 37 (.fieldAddr 1 (T 4)),19,.none,[20,21,22,23,24,25,26,27,28,29,30,31,32],false,true⟩,⟨Hf 41 37 (.load1 (.int .i64) (T 40)),20,.blk (T 40),[21,22,23,24,25,26,27,28,29,30,31,32],false,true⟩,⟨Gf 42 37 (.binOp .mul 3 (Ci 9) (T 41) 3),21,.none,[22,23,24,25,26,27,28,29,30,31,32],false,true⟩,⟨Gf 43 37 (.binOp .gtr 3 (T 39) (T 42) 3),22,.none,[23,24,25,26,27,28,29,30,31,32],false,true⟩,Dr (Ol 44 (.pick (T 37) (.const (.bool true)) (T 43))) 23 [24,25,26,27,28,29,30,31,32],Dr (Mv 45 44) 24 [25,26,27,28,29,30,31,32],⟨Hf 46 45 (.fieldAddr 0 (T 4)),25,.none,[26,27,30,31,32],false,true⟩,⟨Hf 47 45 (.load1 (.int .i64) (T 46)),26,.blk (T 46),[27,30,31,32],false,true⟩,⟨Hf 49 45 (.fieldAddr 1 (T 4)),28,.none,[29,30,31,32],false,true⟩,⟨Hf 50 45 (.load1 (.int .i64) (T 49)),29,.blk (T 49),[30,31,32],false,true⟩,⟨⟨some 48,some (45,false),.call (.func 65) [T 47] vB⟩,27,.all,[30,31,32],false,false⟩,⟨⟨some 51,some (45,false),.call (.func 65) [T 50] vB⟩,30,.all,[31,32],false,false⟩,⟨Gf 52 45 (.binOp .neq 4 (T 48) (T 51) 4),31,.none,[32],false,true⟩,Dr (Ol 53 (.pick (T 45) (.const (.bool true)) (T 52))) 32 []])
 (.cond (T 53) (.seq (Rg [] [Ac 2 8])
 .ret)
 .skip))))
 (Rg [0,3] [Mv 15 3,Bc 16 .add 3 15 .i64 1,As 3 16]))⟩)],
 []⟩
theorem r44_ok : resFun (progU ()) hint live 44 Try.f44 = some r44:=by kernel_rfl
def r45 : RFun :=
⟨.seq (Rg [0,1] [Bo 2 2 0,Bo 3 2 1,Nw 4 2 z2,Ac 5 0])
 (.seq (.seq (Rg [2,3,4] [Ld 6 2,Ld 7 3,Ca 8 66 [T 6,T 7] vI,Bc 9 .neq 3 8 .i64 0])
 (.cond (T 9) (.seq (Rg [2,3,4] [Ro 10 (.build z2 []),Ld 11 2,Ld 12 3,Ca 13 66 [T 11,T 12] vI,Sr 2 4 10,As 5 13])
 .ret)
 .skip))
 (.seq (.seq (Rg [2,3,4] [Fa 14 0 3,L1 15 14,Bc 16 .eql 2 15 .i64 0])
 (.cond (T 16) (.seq (Rg [4] [Ro 17 (.build z2 []),Sr 2 4 17,Ac 5 18])
 .ret)
 .skip))
 (.seq (.seq (Rg [2,3,4] [Fa 18 0 3,L1 19 18,Bc 20 .lss 2 19 .i64 0])
 (.cond (T 20) (.seq (Rg [2,3,4] [Ld 21 2,Fa 22 1 3,L1 23 22,Ol 24 (.unOp .neg 2 (T 23)),Fa 25 0 3,L1 26 25,Ol 27 (.unOp .neg 2 (T 26)),Ro 28 (.build z2 [(0,1,(T 24)),(1,1,(T 27))]),Ca 29 67 [T 21,T 28] (some (.tup [.agg s2,.one (.int .i64)])),Ex 30 29 0,Ex 31 29 1,Sr 2 4 30,As 5 31])
 .ret)
 .skip))
 (.seq (Rg [2,3,4] [Ld 32 2,Fa 33 1 3,L1 34 33,Fa 35 0 3,L1 36 35,Ro 37 (.build z2 [(0,1,(T 34)),(1,1,(T 36))]),Ca 38 67 [T 32,T 37] (some (.tup [.agg s2,.one (.int .i64)])),Ex 39 38 0,Ex 40 38 1,Sr 2 4 39,As 5 40])
 .ret)))),
 [.agg 4 2 [.int .i64,.int .i64],.tmp 5],
 [],
 []⟩
theorem r45_ok : resFun (progU ()) hint live 45 Try.f45 = some r45:=by kernel_rfl
def r46 : RFun :=
⟨.seq (Rg [0,1] [Bo 2 2 0,Bo 3 2 1,Ac 4 0,Ac 5 0])
 (.seq (.seq (Rg [2,3] [Ld 6 2,Ld 7 3,Ca 8 66 [T 6,T 7] vI,Bc 9 .neq 3 8 .i64 0])
 (.cond (T 9) (.seq (Rg [2,3] [Ld 10 2,Ld 11 3,Ca 12 66 [T 10,T 11] vI,Ac 4 0,As 5 12])
 .ret)
 .skip))
 (.seq (.seq (Rg [2,3] [Ld 13 2,Ld 14 3,Bt 15 .eql 24 13 14])
 (.cond (T 15) (.seq (Rg [] [Ac 4 0,Ac 5 0])
 .ret)
 .skip))
 (.seq (.seq (Rg [2,3] [Ld 16 2,Ld 17 3,Ca 18 68 [T 16,T 17] vB])
 (.cond (T 18) (.seq (Rg [] [Ol 4 (.assign (.const (.int .i64 (-1)))),Ac 5 0])
 .ret)
 .skip))
 (.seq (Rg [] [Ac 4 1,Ac 5 0])
 .ret)))),
 [.tmp 4,.tmp 5],
 [],
 []⟩
theorem r46_ok : resFun (progU ()) hint live 46 Try.f46 = some r46:=by kernel_rfl
def r47 : RFun :=
⟨.seq (Rg [0,1] [Ol 4 (.assign (.const (.int .u64 0)))])
 (.seq (.block 0 (.loop 1 (some [0,1]) (some [0,1])))
 (.seq (Rg [0] [Mv 11 0,As 4 11])
 .ret)),
 [.tmp 4],
 [(1,⟨some [0,1],some [0,1],.seq (.seq (Rg [0,1] [Mv 5 1,Bc 6 .neq 80 5 .u64 0])
 (.cond (T 6) .skip
 (.exit 0 (some [0]))))
 (.block 1 (.draw (some [0,1]) 6 [Dr (Mv 7 1) 0 [4,5],Dr (Mv 8 0) 1 [3,4,5],Dr (Mv 9 1) 2 [3,5],Dr (Bt 10 .rem 80 8 9) 3 [5],Dr (As 0 7) 4 [5],Dr (As 1 10) 5 []]))⟩)],
 []⟩
theorem r47_ok : resFun (progU ()) hint live 47 Try.f47 = some r47:=by kernel_rfl
def r48 : RFun :=
⟨.seq (Rg [0] [Ol 2 (.assign (.const (.int .u64 0)))])
 (.seq (.seq (Rg [0] [Mv 3 0,Bc 4 .geq 2 3 .i64 0])
 (.cond (T 4) (.seq (Rg [0] [Mv 5 0,Ro 6 (.convI .u64 (T 5)),As 2 6])
 .ret)
 .skip))
 (.seq (Rg [0] [Mv 7 0,Bc 8 .add 2 7 .i64 1,Ol 9 (.unOp .neg 2 (T 8)),Ro 10 (.convI .u64 (T 9)),Bc 11 .add 80 10 .u64 1,As 2 11])
 .ret)),
 [.tmp 2],
 [],
 []⟩
theorem r48_ok : resFun (progU ()) hint live 48 Try.f48 = some r48:=by kernel_rfl
