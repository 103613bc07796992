import Derived.Test.YtogliemiljhliaaSeat0
import Derived.Test.YtogliemiljhliaaSymS
set_option linter.unusedSimpArgs false
set_option linter.unusedVariables false
namespace Go.Proofs.Ytogliemiljhliaa
open Go.Sim
set_option maxRecDepth 100000
def r24 : RFun :=
⟨.seq (Rg [0,1] [Nw 4 2 z2])
 (.seq (Rg [0,1,4] [Mv 5 0,Mv 6 1,Ro 7 (.build z2 [(0,1,(T 5)),(1,1,(T 6))]),Sr 2 4 7])
 .ret),
 [.agg 4 2 [.int .i64,.int .i64]],
 [],
 []⟩
theorem r24_ok:resFun (progU ()) hint live 24 Try.f24=some r24:=by kernel_rfl
def r26 : RFun :=
⟨.seq (Rg [0,1] [Ol 4 (.assign (.const (.bool false)))])
 (.seq (Rg [0,1] [Mv 14 1,Ro 15 (.lenS (T 14)),Ro 16 (.mkSlice 2 z2 (T 15) (T 15)),As 5 16])
 (.seq (.seq (Rg [0,1,5] [Ac 6 0])
 (.block 0 (.loop 3 none (some [0,1,5,6]))))
 (.seq (.seq (Rg [0,1,5] [Ac 7 0])
 (.block 2 (.loop 7 (some [0,1,5,7]) (some [0,1,5,7]))))
 (.seq (Rg [1,5] [Mv 104 5,Mv 105 1,Ca 106 28 [T 104,T 105] vB,As 4 106])
 .ret)))),
 [.tmp 4],
 [(3,⟨none,some [0,1,5,6],.seq (.seq (Rg [0,1,5,6] [Mv 17 6,Mv 18 1,Ro 19 (.lenS (T 18)),Bt 20 .lss 3 17 19])
 (.cond (T 20) .skip
 (.exit 0 (some [0,1,5]))))
 (.seq (.block 1 (Rg [0,1,5,6] [Mv 23 5,Mv 24 6,Ca 25 24 [.const (.int .i64 0),.const (.int .i64 1)] (some (.val (.agg s2))),Ix 26 2 23 24,Sr 2 26 25]))
 (Rg [0,1,5,6] [Mv 21 6,Bc 22 .add 3 21 .i64 1,As 6 22]))⟩),(7,⟨some [0,1,5,7],some [0,1,5,7],.seq (.seq (Rg [0,1,5,7] [Mv 27 7,Mv 28 0,Ro 29 (.lenS (T 28)),Bt 30 .lss 3 27 29])
 (.cond (T 30) .skip
 (.exit 2 (some [1,5]))))
 (.seq (.block 3 (.seq (Rg [0,1,5,7] [Mv 33 1,Ro 34 (.lenS (T 33)),Bc 35 .sub 3 34 .i64 1,As 8 35])
 (.seq (.block 4 (.loop 10 none (some [0,1,5,7,8])))
 (.seq (.seq (.draw (some [0,1,5,7,8]) 13 [Dr (Mv 51 8) 0 [1,2,3,4,5,6,7,8,9,10,11,12],Dr (Bc 52 .lss 3 51 .i64 0) 1 [2,3,4,5,6,7,8,9,10,11,12],Dr (Mv 53 52) 2 [3,4,5,6,7,8,9,10,11,12],⟨Gf 54 53 (.move (T 0)),3,.none,[5,6,8,9,11,12],false,true⟩,⟨Gf 55 53 (.move (T 7)),4,.none,[5,6,8,9,11,12],false,true⟩,⟨Hf 56 53 (.ixS 1 (T 54) (T 55)),5,.none,[6,8,9,11,12],false,true⟩,⟨Hf 57 53 (.load1 .slice (T 56)),6,.blk (T 56),[8,9,11,12],false,true⟩,⟨Gf 58 53 (.move (T 8)),7,.none,[8,9,11,12],false,true⟩,⟨Hf 59 53 (.ixS 2 (T 57) (T 58)),8,.none,[9,11,12],false,true⟩,⟨Hf 60 53 (.load 2 s2 (T 59)),9,.blk (T 59),[11,12],false,true⟩,⟨⟨some 61,some (53,false),.call (.func 24) [.const (.int .i64 1),.const (.int .i64 1)] (some (.val (.agg s2)))⟩,10,.all,[11,12],false,false⟩,⟨Gf 62 53 (.binOp .neq 52 (T 60) (T 61) 52),11,.none,[12],false,true⟩,Dr (Ol 63 (.pick (T 53) (.const (.bool true)) (T 62))) 12 []])
 (.cond (T 63) (.seq (Rg [] [Ol 4 (.assign (.const (.bool false)))])
 .ret)
 .skip))
 (.seq (Rg [0,1,5,7,8] [Ac 9 0])
 (.block 6 (.loop 15 (some [0,1,5,7,8,9]) (some [0,1,5,7,8,9]))))))))
 (Rg [0,1,5,7] [Mv 31 7,Bc 32 .add 3 31 .i64 1,As 7 32]))⟩),(10,⟨none,some [0,1,5,7,8],.seq (.seq (Rg [0,1,5,7,8] [Mv 36 8,Bc 37 .geq 3 36 .i64 0,Mv 38 37,Gt 39 38 (.move (T 0)),Gt 40 38 (.move (T 7)),Ht 41 38 (.ixS 1 (T 39) (T 40)),Ht 42 38 (.load1 .slice (T 41)),Gt 43 38 (.move (T 8)),Ht 44 38 (.ixS 2 (T 42) (T 43)),Ht 45 38 (.fieldAddr 0 (T 44)),Ht 46 38 (.load1 (.int .i64) (T 45)),Gt 47 38 (.binOp .eql 2 (T 46) (Ci 0) 2),Ol 48 (.pick (T 38) (T 47) (.const (.bool false)))])
 (.cond (T 48) .skip
 (.exit 4 (some [0,1,5,7,8]))))
 (.block 5 (Rg [0,1,5,7,8] [Mv 49 8,Bc 50 .sub 3 49 .i64 1,As 8 50]))⟩),(15,⟨some [0,1,5,7,8,9],some [0,1,5,7,8,9],.seq (.seq (Rg [0,1,5,7,8,9] [Mv 64 9,Mv 65 1,Ro 66 (.lenS (T 65)),Bt 67 .lss 3 64 66])
 (.cond (T 67) .skip
 (.exit 6 (some [0,1,5,7]))))
 (.seq (.block 7 (.seq (.draw (some [0,1,5,7,8,9]) 18 [Dr (Mv 71 1) 0 [2,3,11,12,13,14,16,17],Dr (Mv 72 8) 1 [2,3,11,12,13,14,16,17],Dr (Ix 73 2 71 72) 2 [3,11,12,13,14,16,17],Db (Ld 74 73) 3 73 [11,12,13,14,16,17],Dr (Mv 75 0) 4 [6,7,9,10,11,12,13,14,16,17],Dr (Mv 76 7) 5 [6,7,9,10,11,12,13,14,16,17],Dr (Ix 77 1 75 76) 6 [7,9,10,11,12,13,14,16,17],Db (Ro 78 (.load1 .slice (T 77))) 7 77 [9,10,11,12,13,14,16,17],Dr (Mv 79 9) 8 [9,10,11,12,13,14,16,17],Dr (Ix 80 2 78 79) 9 [10,11,12,13,14,16,17],Db (Ld 81 80) 10 80 [11,12,13,14,16,17],⟨Nw 10 2 z2,15,.new true,[16,17],false,true⟩,⟨Ca 82 42 [T 74,T 81] (some (.tup [.agg s2,.one (.int .i64)])),11,.all,[12,13,14,16,17],false,false⟩,Dr (Mv 70 82) 12 [13,14,16,17],Dr (Ex 83 70 0) 13 [16,17],Dr (Ex 84 70 1) 14 [17],⟨Sr 2 10 83,16,.blk (T 10),[17],true,true⟩,Dr (As 11 84) 17 []])
 (.seq (.draw (some [0,1,5,7,8,9,10,11]) 12 [Dr (Mv 86 5) 0 [2,3,5,6,7,8,10,11],Dr (Mv 87 9) 1 [2,3,5,6,7,8,10,11],Dr (Ix 88 2 86 87) 2 [3,5,6,7,8,10,11],Db (Ld 89 88) 3 88 [5,6,7,8,10,11],Db (Ld 90 10) 4 10 [5,6,7,8,10,11],⟨Nw 12 2 z2,9,.new true,[10,11],false,true⟩,⟨Ca 91 43 [T 89,T 90] (some (.tup [.agg s2,.one (.int .i64)])),5,.all,[6,7,8,10,11],false,false⟩,Dr (Mv 85 91) 6 [7,8,10,11],Dr (Ex 92 85 0) 7 [10,11],Dr (Ex 93 85 1) 8 [11],⟨Sr 2 12 92,10,.blk (T 12),[11],true,true⟩,Dr (As 13 93) 11 []])
 (.seq (.seq (Rg [0,1,5,7,8,9,11,12,13] [Mv 94 11,Bc 95 .neq 3 94 .i64 0,Mv 96 95,Gf 97 96 (.move (T 13)),Gf 98 96 (.binOp .neq 3 (T 97) (Ci 0) 3),Ol 99 (.pick (T 96) (.const (.bool true)) (T 98))])
 (.cond (T 99) (.seq (Rg [] [Ol 4 (.assign (.const (.bool false)))])
 .ret)
 .skip))
 (Rg [0,1,5,7,8,9,12] [Mv 100 5,Mv 101 9,Ld 102 12,Ix 103 2 100 101,Sr 2 103 102])))))
 (Rg [0,1,5,7,8,9] [Mv 68 9,Bc 69 .add 3 68 .i64 1,As 9 69]))⟩)],
 []⟩
theorem r26_ok:resFun (progU ()) hint live 26 Try.f26=some r26:=by kernel_rfl
def r27 : RFun :=
⟨.seq (Rg [0,1] [Ol 4 (.assign (.const (.slice none 0 0))),Ol 5 (.assign (.const (.slice none 0 0))),Ac 6 0])
 (.seq (.seq (Rg [0,1] [Mv 14 0,Ca 15 18 [T 14] vI,As 7 15])
 (.seq (Rg [0,1,7] [Mv 16 7,Bc 17 .neq 23 16 .i64 0])
 (.cond (T 17) (.seq (Rg [7] [Mv 18 7,Ol 4 (.assign (.const (.slice none 0 0))),Ol 5 (.assign (.const (.slice none 0 0))),As 6 18])
 .ret)
 .skip)))
 (.seq (.seq (Rg [0,1] [Mv 19 1,Ro 20 (.lenS (T 19)),Mv 21 0,Ca 22 44 [T 21] (some (.val (.one .slice))),Ro 23 (.lenS (T 22)),Bt 24 .neq 3 20 23])
 (.cond (T 24) (.seq (Rg [] [Ol 4 (.assign (.const (.slice none 0 0))),Ol 5 (.assign (.const (.slice none 0 0))),Ac 6 2])
 .ret)
 .skip))
 (.seq (.seq (Rg [0,1] [Mv 25 1,Ro 26 (.lenS (T 25)),Ol 27 (.move (Ci 0))])
 (.block 0 (.loop 7 none (some [0,1,25,26,27]))))
 (.seq (Rg [0,1] [Mv 38 0,Mv 39 1,Ca 40 45 [T 38,T 39] (some (.val (.agg [.slice,.int .i64,.slice,.int .i64]))),Ro 10 (.new 4 [.slice none 0 0,.int .i64 0,.slice none 0 0,.int .i64 0]),Sr 4 10 40])
 (.seq (.seq (Rg [0,10] [Fa 41 0 10,Ro 42 (.load1 .slice (T 41)),Fa 43 2 10,Ro 44 (.load1 .slice (T 43)),Ro 45 (.lenS (T 44)),Ro 46 (.cutS 77 (T 42) (some (T 45)) none none),Ro 47 (.lenS (T 46)),Ol 48 (.move (Ci 0))])
 (.block 2 (.loop 14 none (some [0,10,46,47,48]))))
 (.seq (Rg [0,10] [Fa 59 1 10,L1 60 59,Ca 61 46 [T 10,T 60,.const (.int .i64 1)] (some (.val (.one .slice))),As 13 61])
 (.seq (.draw (some [0,13]) 13 [Dr (Mv 62 13) 0 [3,4,9,10,11,12],Dr (Mv 63 0) 1 [2,3,4,9,10,11,12],Dr (Ro 64 (.lenS (T 63))) 2 [3,4,9,10,11,12],Dr (Ro 65 (.cutS 50 (T 62) none (some (T 64)) none)) 3 [4,9,10,11,12],Dr (Mv 67 13) 5 [8,9,10,11,12],Dr (Mv 68 0) 6 [7,8,9,10,11,12],Dr (Ro 69 (.lenS (T 68))) 7 [8,9,10,11,12],Dr (Ro 70 (.cutS 50 (T 67) (some (T 69)) none none)) 8 [9,10,11,12],⟨Ca 66 47 [T 65] (some (.val (.one .slice))),4,.all,[9,10,11,12],false,false⟩,⟨Ca 71 47 [T 70] (some (.val (.one .slice))),9,.all,[10,11,12],false,false⟩,Dr (As 4 66) 10 [11,12],Dr (As 5 71) 11 [12],Dr (Ac 6 0) 12 []])
 .ret))))))),
 [.tmp 4,.tmp 5,.tmp 6],
 [(7,⟨none,some [0,1,25,26,27],.seq (Rg [0,1,25,26,27] [Bt 28 .lss 3 27 26])
 (.seq (.cond (T 28) .skip
 (.exit 0 (some [0,1])))
 (.seq (.block 1 (.seq (Rg [0,1,25,26,27] [Ix 29 1 25 27,L1 30 29,As 9 30])
 (.seq (Rg [0,1,9,25,26,27] [Mv 31 9,Ol 32 (.binOp .lss 3 (T 31) (.const (.int .i64 (-99))) 3),Mv 33 32,Gf 34 33 (.move (T 9)),Gf 35 33 (.binOp .gtr 3 (T 34) (Ci 99) 3),Ol 36 (.pick (T 33) (.const (.bool true)) (T 35))])
 (.cond (T 36) (.seq (Rg [] [Ol 4 (.assign (.const (.slice none 0 0))),Ol 5 (.assign (.const (.slice none 0 0))),Ac 6 2])
 .ret)
 .skip))))
 (Rg [0,1,25,26,27] [Bc 37 .add 3 27 .i64 1,Mv 27 37])))⟩),(14,⟨none,some [0,10,46,47,48],.seq (Rg [0,10,46,47,48] [Bt 49 .lss 3 48 47])
 (.seq (.cond (T 49) .skip
 (.exit 2 (some [0,10])))
 (.seq (.block 3 (.seq (Rg [0,10,46,47,48] [Ix 50 1 46 48,Ro 51 (.load1 .slice (T 50)),As 12 51])
 (.seq (Rg [0,10,12,46,47,48] [Mv 52 12,Fa 53 1 10,L1 54 53,Ix 55 1 52 54,L1 56 55,Bc 57 .neq 2 56 .i64 0])
 (.cond (T 57) (.seq (Rg [] [Ol 4 (.assign (.const (.slice none 0 0))),Ol 5 (.assign (.const (.slice none 0 0))),Ac 6 6])
 .ret)
 .skip))))
 (Rg [0,10,46,47,48] [Bc 58 .add 3 48 .i64 1,Mv 48 58])))⟩)],
 []⟩
theorem r27_ok:resFun (progU ()) hint live 27 Try.f27=some r27:=by kernel_rfl
def r28 : RFun :=
⟨.seq (Rg [0,1] [Ol 4 (.assign (.const (.bool false)))])
 (.seq (.seq (Rg [0,1] [Mv 6 0,Ro 7 (.lenS (T 6)),Mv 8 1,Ro 9 (.lenS (T 8)),Bt 10 .neq 3 7 9])
 (.cond (T 10) (.seq (Rg [] [Ol 4 (.assign (.const (.bool false)))])
 .ret)
 .skip))
 (.seq (.seq (Rg [0,1] [Ac 5 0])
 (.block 0 (.loop 4 (some [0,1,5]) (some [0,1,5]))))
 (.seq (Rg [] [Ol 4 (.assign (.const (.bool true)))])
 .ret))),
 [.tmp 4],
 [(4,⟨some [0,1,5],some [0,1,5],.seq (.seq (Rg [0,1,5] [Mv 11 5,Mv 12 0,Ro 13 (.lenS (T 12)),Bt 14 .lss 3 11 13])
 (.cond (T 14) .skip
 (.exit 0 (some []))))
 (.seq (.block 1 (.seq (.draw (some [0,1,5]) 9 [Dr (Mv 17 0) 0 [2,3,8],Dr (Mv 18 5) 1 [2,3,8],Dr (Ix 19 2 17 18) 2 [3,8],Db (Ld 20 19) 3 19 [8],Dr (Mv 21 1) 4 [6,7,8],Dr (Mv 22 5) 5 [6,7,8],Dr (Ix 23 2 21 22) 6 [7,8],Db (Ld 24 23) 7 23 [8],Dr (Bt 25 .neq 52 20 24) 8 []])
 (.cond (T 25) (.seq (Rg [] [Ol 4 (.assign (.const (.bool false)))])
 .ret)
 .skip)))
 (Rg [0,1,5] [Mv 15 5,Bc 16 .add 3 15 .i64 1,As 5 16]))⟩)],
 []⟩
theorem r28_ok:resFun (progU ()) hint live 28 Try.f28=some r28:=by kernel_rfl
def r30 : RFun :=
⟨.seq (Rg [0,1,2] [Ol 6 (.assign (.const (.slice none 0 0))),Ac 7 0])
 (.seq (.seq (Rg [0,1,2] [Mv 16 0,Ca 17 18 [T 16] vI,As 8 17])
 (.seq (Rg [0,1,2,8] [Mv 18 8,Bc 19 .neq 23 18 .i64 0])
 (.cond (T 19) (.seq (Rg [8] [Mv 20 8,Ol 6 (.assign (.const (.slice none 0 0))),As 7 20])
 .ret)
 .skip)))
 (.seq (Rg [0,1,2] [Mv 21 0,Ca 22 35 [T 21] (some (.val (.one .slice))),As 9 22])
 (.seq (.seq (Rg [0,1,2,9] [Mv 23 1,Mv 24 0,Ro 25 (.lenS (T 24)),Ca 26 50 [T 23,T 25] vB,Ol 27 (.unOp .not 4 (T 26)),Mv 28 27,Gf 29 28 (.move (T 2)),Gf 30 28 (.move (T 9)),Hf 31 28 (.lenS (T 30)),⟨some 32,some (28,false),.call (.func 50) [T 29,T 31] vB⟩,Gf 33 28 (.unOp .not 4 (T 32)),Ol 34 (.pick (T 28) (.const (.bool true)) (T 33))])
 (.cond (T 34) (.seq (Rg [] [Ol 6 (.assign (.const (.slice none 0 0))),Ac 7 2])
 .ret)
 .skip))
 (.seq (Rg [0,1,2,9] [Ol 10 (.assign (.const (.slice none 0 0)))])
 (.seq (.seq (Rg [0,1,2,9,10] [Mv 35 0,Ca 36 44 [T 35] (some (.val (.one .slice))),Ro 37 (.lenS (T 36)),Ol 38 (.move (Ci 0))])
 (.block 0 (.loop 9 (some [0,1,2,9,10,36,37,38]) (some [0,1,2,9,10,36,37,38]))))
 (.seq (Rg [10] [Mv 88 10,As 6 88,Ac 7 0])
 .ret)))))),
 [.tmp 6,.tmp 7],
 [(9,⟨some [0,1,2,9,10,36,37,38],some [0,1,2,9,10,36,37,38],.seq (Rg [0,1,2,9,10,36,37,38] [Bt 39 .lss 3 38 37])
 (.seq (.cond (T 39) .skip
 (.exit 0 (some [10])))
 (.seq (.block 1 (.seq (Rg [0,1,2,9,10,36,37,38] [Ix 40 2 36 38,Ld 41 40,Nw 12 2 z2,Sr 2 12 41])
 (.seq (.draw (some [0,1,2,9,10,12,36,37,38]) 17 [Dr (Mv 43 1) 0 [3,4,10,11,12,13,15,16],Dr (Fa 44 0 12) 1 [2,3,4,10,11,12,13,15,16],Db (L1 45 44) 2 44 [3,4,10,11,12,13,15,16],Dr (Ix 46 2 43 45) 3 [4,10,11,12,13,15,16],Db (Ld 47 46) 4 46 [10,11,12,13,15,16],Dr (Mv 48 1) 5 [8,9,10,11,12,13,15,16],Dr (Fa 49 1 12) 6 [7,8,9,10,11,12,13,15,16],Db (L1 50 49) 7 49 [8,9,10,11,12,13,15,16],Dr (Ix 51 2 48 50) 8 [9,10,11,12,13,15,16],Db (Ld 52 51) 9 51 [10,11,12,13,15,16],⟨Nw 13 2 z2,14,.new true,[15,16],false,true⟩,⟨Ca 53 51 [T 47,T 52] (some (.tup [.agg s2,.one (.int .i64)])),10,.all,[11,12,13,15,16],false,false⟩,Dr (Mv 42 53) 11 [12,13,15,16],Dr (Ex 54 42 0) 12 [15,16],Dr (Ex 55 42 1) 13 [16],⟨Sr 2 13 54,15,.blk (T 13),[16],true,true⟩,Dr (As 14 55) 16 []])
 (.seq (.seq (Rg [0,1,2,9,10,12,13,14,36,37,38] [Mv 56 14,Bc 57 .neq 23 56 .i64 0])
 (.cond (T 57) (.seq (Rg [14] [Mv 58 14,Ol 6 (.assign (.const (.slice none 0 0))),As 7 58])
 .ret)
 .skip))
 (.seq (.draw (some [0,1,2,9,10,12,13,36,37,38]) 24 [Db (Ld 60 13) 0 13 [17,18,19,20,22,23],Dr (Mv 61 2) 1 [15,16,17,18,19,20,22,23],Dr (Mv 62 9) 2 [14,15,16,17,18,19,20,22,23],Dr (Mv 63 0) 3 [6,7,13,14,15,16,17,18,19,20,22,23],Dr (Fa 64 1 12) 4 [5,6,7,13,14,15,16,17,18,19,20,22,23],Db (L1 65 64) 5 64 [6,7,13,14,15,16,17,18,19,20,22,23],Dr (Ix 66 1 63 65) 6 [7,13,14,15,16,17,18,19,20,22,23],Db (L1 67 66) 7 66 [13,14,15,16,17,18,19,20,22,23],Dr (Mv 68 0) 8 [11,12,13,14,15,16,17,18,19,20,22,23],Dr (Fa 69 0 12) 9 [10,11,12,13,14,15,16,17,18,19,20,22,23],Db (L1 70 69) 10 69 [11,12,13,14,15,16,17,18,19,20,22,23],Dr (Ix 71 1 68 70) 11 [12,13,14,15,16,17,18,19,20,22,23],Db (L1 72 71) 12 71 [13,14,15,16,17,18,19,20,22,23],Dr (Bt 73 .sub 3 67 72) 13 [14,15,16,17,18,19,20,22,23],⟨Nw 15 2 z2,21,.new true,[22,23],false,true⟩,⟨Ca 74 53 [T 62,T 73] vI,14,.all,[15,16,17,18,19,20,22,23],false,false⟩,Dr (Ix 75 2 61 74) 15 [16,17,18,19,20,22,23],Db (Ld 76 75) 16 75 [17,18,19,20,22,23],⟨Ca 77 52 [T 60,T 76] (some (.tup [.agg s2,.one (.int .i64)])),17,.all,[18,19,20,22,23],false,false⟩,Dr (Mv 59 77) 18 [19,20,22,23],Dr (Ex 78 59 0) 19 [22,23],Dr (Ex 79 59 1) 20 [23],⟨Sr 2 15 78,22,.blk (T 15),[23],true,true⟩,Dr (As 14 79) 23 []])
 (.seq (.seq (Rg [0,1,2,9,10,14,15,36,37,38] [Mv 80 14,Bc 81 .neq 23 80 .i64 0])
 (.cond (T 81) (.seq (Rg [14] [Mv 82 14,Ol 6 (.assign (.const (.slice none 0 0))),As 7 82])
 .ret)
 .skip))
 (Rg [0,1,2,9,10,15,36,37,38] [Mv 83 10,Ld 84 15,Ro 85 (.buildSlice 2 1 z2 [(0,2,(T 84))]),⟨some 86,none,.op false (.old (.call ⟨.builtin .append,#[T 83,T 85],#[50,50]⟩))⟩,As 10 86])))))))
 (Rg [0,1,2,9,10,36,37,38] [Bc 87 .add 3 38 .i64 1,Mv 38 87])))⟩)],
 []⟩
theorem r30_ok:resFun (progU ()) hint live 30 Try.f30=some r30:=by kernel_rfl
def r32 : RFun :=
⟨.seq (Rg [0,1] [Ol 4 (.assign (.const (.bool false)))])
 (.seq (.seq (Rg [0,1] [Ac 5 0])
 (.block 0 (.loop 2 none (some [0,1,5]))))
 (.seq (Rg [0,1] [Mv 24 1,Ro 25 (.lenS (T 24)),Mv 26 0,Ro 27 (.lenS (T 26)),Mv 28 0,Ro 29 (.lenS (T 28)),Bc 30 .sub 3 29 .i64 1,Bt 31 .mul 3 27 30,Bc 32 .quo 3 31 .i64 2,Bt 33 .eql 3 25 32,As 4 33])
 .ret)),
 [.tmp 4],
 [(2,⟨none,some [0,1,5],.seq (.seq (Rg [0,1,5] [Mv 6 5,Mv 7 1,Ro 8 (.lenS (T 7)),Bt 9 .lss 3 6 8])
 (.cond (T 9) .skip
 (.exit 0 (some [0,1]))))
 (.seq (.block 1 (.seq (Rg [0,1,5] [Mv 12 1,Mv 13 5,Ix 14 1 12 13,L1 15 14,Ol 16 (.binOp .lss 3 (T 15) (.const (.int .i64 (-99))) 3),Mv 17 16,Gf 18 17 (.move (T 1)),Gf 19 17 (.move (T 5)),Hf 20 17 (.ixS 1 (T 18) (T 19)),Hf 21 17 (.load1 (.int .i64) (T 20)),Gf 22 17 (.binOp .gtr 3 (T 21) (Ci 99) 3),Ol 23 (.pick (T 17) (.const (.bool true)) (T 22))])
 (.cond (T 23) (.seq (Rg [] [Ol 4 (.assign (.const (.bool false)))])
 .ret)
 .skip)))
 (Rg [0,1,5] [Mv 10 5,Bc 11 .add 3 10 .i64 1,As 5 11]))⟩)],
 []⟩
theorem r32_ok:resFun (progU ()) hint live 32 Try.f32=some r32:=by kernel_rfl
def r33 : RFun :=
⟨.seq (Rg [0,1] [Bo 2 2 0,Bo 3 2 1,Nw 4 2 z2,Ac 5 0])
 (.seq (.seq (Rg [2,3,4] [Ld 6 2,Ld 7 3,Ca 8 55 [T 6,T 7] vI,Bc 9 .neq 3 8 .i64 0])
 (.cond (T 9) (.seq (Rg [2,3,4] [Ro 10 (.build z2 []),Ld 11 2,Ld 12 3,Ca 13 55 [T 11,T 12] vI,Sr 2 4 10,As 5 13])
 .ret)
 .skip))
 (.seq (.draw (some [2,3,4]) 8 [Db (Ld 14 2) 0 2 [3,4,5,6,7],Db (Ld 15 3) 1 3 [2,3,4,5,6,7],⟨Ca 16 56 [T 15] (some (.val (.agg s2))),2,.all,[3,4,5,6,7],false,false⟩,⟨Ca 17 43 [T 14,T 16] (some (.tup [.agg s2,.one (.int .i64)])),3,.all,[4,5,6,7],false,false⟩,Dr (Ex 18 17 0) 4 [6,7],Dr (Ex 19 17 1) 5 [6,7],⟨Sr 2 4 18,6,.blk (T 4),[7],true,true⟩,Dr (As 5 19) 7 []])
 .ret)),
 [.agg 4 2 [.int .i64,.int .i64],.tmp 5],
 [],
 []⟩
theorem r33_ok:resFun (progU ()) hint live 33 Try.f33=some r33:=by kernel_rfl
def r34 : RFun :=
⟨.seq (Rg [0] [Ol 2 (.assign (.const (.bool false)))])
 (.seq (.seq (Rg [0] [Ac 3 0])
 (.block 0 (.loop 2 none (some [0,3]))))
 (.seq (Rg [] [Ol 2 (.assign (.const (.bool true)))])
 .ret)),
 [.tmp 2],
 [(2,⟨none,some [0,3],.seq (.seq (Rg [0,3] [Mv 4 3,Mv 5 0,Ro 6 (.lenS (T 5)),Bt 7 .lss 3 4 6])
 (.cond (T 7) .skip
 (.exit 0 (some []))))
 (.seq (.block 1 (.seq (Rg [0,3] [Mv 10 0,Mv 11 3,Ix 12 2 10 11,Ld 13 12,Ca 14 57 [T 13] vI,Bc 15 .neq 3 14 .i64 0,Mv 16 15,Gf 17 16 (.move (T 0)),Gf 18 16 (.move (T 3)),Hf 19 16 (.ixS 2 (T 17) (T 18)),Hf 20 16 (.fieldAddr 1 (T 19)),Hf 21 16 (.load1 (.int .i64) (T 20)),Gf 22 16 (.binOp .gtr 2 (T 21) (Ci 1000) 2),Ol 23 (.pick (T 16) (.const (.bool true)) (T 22)),Mv 24 23,Gf 25 24 (.move (T 0)),Gf 26 24 (.move (T 3)),Hf 27 24 (.ixS 2 (T 25) (T 26)),Hf 28 24 (.fieldAddr 0 (T 27)),Hf 29 24 (.load1 (.int .i64) (T 28)),Gf 30 24 (.binOp .gtr 2 (T 29) (Ci 1000000) 2),Ol 31 (.pick (T 24) (.const (.bool true)) (T 30)),Mv 32 31,Gf 33 32 (.move (T 0)),Gf 34 32 (.move (T 3)),Hf 35 32 (.ixS 2 (T 33) (T 34)),Hf 36 32 (.fieldAddr 0 (T 35)),Hf 37 32 (.load1 (.int .i64) (T 36)),Gf 38 32 (.binOp .lss 2 (T 37) (.const (.int .i64 (-1000000))) 2),Ol 39 (.pick (T 32) (.const (.bool true)) (T 38))])
 (.cond (T 39) (.seq (Rg [] [Ol 2 (.assign (.const (.bool false)))])
 .ret)
 .skip)))
 (Rg [0,3] [Mv 8 3,Bc 9 .add 3 8 .i64 1,As 3 9]))⟩)],
 []⟩
theorem r34_ok:resFun (progU ()) hint live 34 Try.f34=some r34:=by kernel_rfl
def r35 : RFun :=
⟨.seq (Rg [0] [Ol 2 (.assign (.const (.slice none 0 0)))])
 (.seq (Rg [0] [Ol 3 (.assign (.const (.slice none 0 0)))])
 (.seq (.seq (Rg [0,3] [Mv 6 0,Ca 7 44 [T 6] (some (.val (.one .slice))),Ro 8 (.lenS (T 7)),Ol 9 (.move (Ci 0))])
 (.block 0 (.loop 3 (some [0,3,7,8,9]) (some [0,3,7,8,9]))))
 (.seq (Rg [3] [Mv 28 3,Ca 29 58 [T 28] (some (.tup []))])
 (.seq (Rg [3] [Mv 30 3,Ca 31 59 [T 30] (some (.val (.one .slice))),As 2 31])
 .ret)))),
 [.tmp 2],
 [(3,⟨some [0,3,7,8,9],some [0,3,7,8,9],.seq (Rg [0,3,7,8,9] [Bt 10 .lss 3 9 8])
 (.seq (.cond (T 10) .skip
 (.exit 0 (some [3])))
 (.seq (.block 1 (.seq (Rg [0,3,7,8,9] [Ix 11 2 7 9,Ld 12 11,Nw 5 2 z2,Sr 2 5 12])
 (.draw (some [0,3,5,7,8,9]) 15 [Dr (Mv 13 3) 0 [13,14],Dr (Mv 14 0) 1 [4,5,11,12,13,14],Dr (Fa 15 1 5) 2 [3,4,5,11,12,13,14],Db (L1 16 15) 3 15 [4,5,11,12,13,14],Dr (Ix 17 1 14 16) 4 [5,11,12,13,14],Db (L1 18 17) 5 17 [11,12,13,14],Dr (Mv 19 0) 6 [9,10,11,12,13,14],Dr (Fa 20 0 5) 7 [8,9,10,11,12,13,14],Db (L1 21 20) 8 20 [9,10,11,12,13,14],Dr (Ix 22 1 19 21) 9 [10,11,12,13,14],Db (L1 23 22) 10 22 [11,12,13,14],Dr (Bt 24 .sub 3 18 23) 11 [12,13,14],⟨Ro 25 (.buildSlice 1 1 [.int .i64 0] [(0,1,(T 24))]),12,.new false,[13,14],false,true⟩,⟨⟨some 26,none,.op false (.old (.call ⟨.builtin .append,#[T 13,T 25],#[22,22]⟩))⟩,13,.app [T 13,T 25],[14],false,false⟩,Dr (As 3 26) 14 []])))
 (Rg [0,3,7,8,9] [Bc 27 .add 3 9 .i64 1,Mv 9 27])))⟩)],
 []⟩
theorem r35_ok:resFun (progU ()) hint live 35 Try.f35=some r35:=by kernel_rfl
