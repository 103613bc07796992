import Derived.Test.YtmkiclinllifiaaSeat0
import Derived.Test.YtmkiclinllifiaaSymS
set_option linter.unusedSimpArgs false
set_option linter.unusedVariables false
namespace Go.Proofs.Ytmkiclinllifiaa
open Go.Sim
set_option maxRecDepth 100000
def r33 : RFun :=
⟨.seq (Rg [0] [Bo 1 3 0,Ac 2 0])
 (.seq (.seq (.draw (some [1]) 39 [Dr (Fa 3 2 1) 0 [1,2,3,4,5,6,7,8,9,10,11,12,13,14,15,16,17,18,19,20,21,22,23,24,25,26,27,28,29,30,31,32,33,34,35,36,37,38],Db (L1 4 3) 1 3 [2,3,4,5,6,7,8,9,10,11,12,13,14,15,16,17,18,19,20,21,22,23,24,25,26,27,28,29,30,31,32,33,34,35,36,37,38],Dr (Bc 5 .lss 2 4 .i64 1) 2 [3,4,5,6,7,8,9,10,11,12,13,14,15,16,17,18,19,20,21,22,23,24,25,26,27,28,29,30,31,32,33,34,35,36,37,38],Dr (Mv 6 5) 3 [4,5,6,7,8,9,10,11,12,13,14,15,16,17,18,19,20,21,22,23,24,25,26,27,28,29,30,31,32,33,34,35,36,37,38],⟨Hf 7 6 (.fieldAddr 2 (T 1)),4,.none,[5,6,7,8,9,10,11,12,13,14,15,16,17,18,19,20,21,22,23,24,25,26,27,28,29,30,31,32,33,34,35,36,37,38],false,true⟩,⟨Hf 8 6 (.load1 (.int .i64) (T 7)),5,.blk (T 7),[6,7,8,9,10,11,12,13,14,15,16,17,18,19,20,21,22,23,24,25,26,27,28,29,30,31,32,33,34,35,36,37,38],false,true⟩,⟨Gf 9 6 (.binOp .gtr 2 (T 8) (Ci 1000000000) 2),6,.none,[7,8,9,10,11,12,13,14,15,16,17,18,19,20,21,22,23,24,25,26,27,28,29,30,31,32,33,34,35,36,37,38],false,true⟩,Dr (Ol 10 (.pick (T 6) (.const (.bool true)) (T 9))) 7 [8,9,10,11,12,13,14,15,16,17,18,19,20,21,22,23,24,25,26,27,28,29,30,31,32,33,34,35,36,37,38],Dr (Mv 11 10) 8 [9,10,11,12,13,14,15,16,17,18,19,20,21,22,23,24,25,26,27,28,29,30,31,32,33,34,35,36,37,38],⟨Hf 12 11 (.fieldAddr 0 (T 1)),9,.none,[10,11,12,13,14,15,16,17,18,19,20,21,22,23,24,25,26,27,28,29,30,31,32,33,34,35,36,37,38],false,true⟩,⟨Hf 13 11 (.load1 (.int .i64) (T 12)),10,.blk (T 12),[11,12,13,14,15,16,17,18,19,20,21,22,23,24,25,26,27,28,29,30,31,32,33,34,35,36,37,38],false,true⟩,⟨Gf 14 11 (.binOp .lss 2 (T 13) (.const (.int .i64 (-1000000000))) 2),11,.none,[12,13,14,15,16,17,18,19,20,21,22,23,24,25,26,27,28,29,30,31,32,33,34,35,36,37,38],false,true⟩,Dr (Ol 15 (.pick (T 11) (.const (.bool true)) (T 14))) 12 [13,14,15,16,17,18,19,20,21,22,23,24,25,26,27,28,29,30,31,32,33,34,35,36,37,38],Dr (Mv 16 15) 13 [14,15,16,17,18,19,20,21,22,23,24,25,26,27,28,29,30,31,32,33,34,35,36,37,38],⟨Hf 17 16 (.fieldAddr 0 (T 1)),14,.none,[15,16,17,18,19,20,21,22,23,24,25,26,27,28,29,30,31,32,33,34,35,36,37,38],false,true⟩,⟨Hf 18 16 (.load1 (.int .i64) (T 17)),15,.blk (T 17),[16,17,18,19,20,21,22,23,24,25,26,27,28,29,30,31,32,33,34,35,36,37,38],false,true⟩,⟨Gf 19 16 (.binOp .gtr 2 (T 18) (Ci 1000000000) 2),16,.none,[17,18,19,20,21,22,23,24,25,26,27,28,29,30,31,32,33,34,35,36,37,38],false,true⟩,Dr (Ol 20 (.pick (T 16) (.const (.bool true)) (T 19))) 17 [18,19,20,21,22,23,24,25,26,27,28,29,30,31,32,33,34,35,36,37,38],Dr (Mv 21 20) 18 [19,20,21,22,23,24,25,26,27,28,29,30,31,32,33,34,35,36,37,38],⟨Hf 22 21 (.fieldAddr 1 (T 1)),19,.none,[20,21,22,23,24,25,26,27,28,29,30,31,32,33,34,35,36,37,38],false,true⟩,⟨Hf 23 21 (.load1 (.int .i64) (T 22)),20,.blk (T 22),[21,22,23,24,25,26,27,28,29,30,31,32,33,34,35,36,37,38],false,true⟩,⟨Gf 24 21 (.binOp .lss 2 (T 23) (.const (.int .i64 (-1000000000))) 2),21,.none,[22,23,24,25,26,27,28,29,30,31,32,33,34,35,36,37,38],false,true⟩,Dr (Ol 25 (.pick (T 21) (.const (.bool true)) (T 24))) 22 [23,24,25,26,27,28,29,30,31,32,33,34,35,36,37,38],Dr (Mv 26 25) 23 [24,25,26,27,28,29,30,31,32,33,34,35,36,37,38],⟨Hf 27 26 (.fieldAddr 1 (T 1)),24,.none,[25,26,27,28,29,30,31,32,33,34,35,36,37,38],false,true⟩,⟨Hf 28 26 (.load1 (.int .i64) (T 27)),25,.blk (T 27),[26,27,28,29,30,31,32,33,34,35,36,37,38],false,true⟩,⟨Gf 29 26 (.binOp .gtr 2 (T 28) (Ci 1000000000) 2),26,.none,[27,28,29,30,31,32,33,34,35,36,37,38],false,true⟩,Dr (Ol 30 (.pick (T 26) (.const (.bool true)) (T 29))) 27 [28,29,30,31,32,33,34,35,36,37,38],Dr (Mv 31 30) 28 [29,30,31,32,33,34,35,36,37,38],⟨Hf 32 31 (.fieldAddr 0 (T 1)),29,.none,[30,33,36,37,38],false,true⟩,⟨Hf 33 31 (.load1 (.int .i64) (T 32)),30,.blk (T 32),[33,36,37,38],false,true⟩,⟨Hf 34 31 (.fieldAddr 1 (T 1)),31,.none,[32,33,36,37,38],false,true⟩,⟨Hf 35 31 (.load1 (.int .i64) (T 34)),32,.blk (T 34),[33,36,37,38],false,true⟩,⟨Hf 37 31 (.fieldAddr 2 (T 1)),34,.none,[35,36,37,38],false,true⟩,⟨Hf 38 31 (.load1 (.int .i64) (T 37)),35,.blk (T 37),[36,37,38],false,true⟩,⟨⟨some 36,some (31,false),.call (.func 60) [T 33,T 35] vI⟩,33,.all,[36,37,38],false,false⟩,⟨⟨some 39,some (31,false),.call (.func 60) [T 36,T 38] vI⟩,36,.all,[37,38],false,false⟩,⟨Gf 40 31 (.binOp .neq 2 (T 39) (Ci 1) 2),37,.none,[38],false,true⟩,Dr (Ol 41 (.pick (T 31) (.const (.bool true)) (T 40))) 38 []])
 (.cond (T 41) (.seq (Rg [] [Ac 2 8])
 .ret)
 .skip))
 (.seq (Rg [] [Ac 2 0])
 .ret)),
 [.tmp 2],
 [],
 []⟩
theorem r33_ok:resFun (progU ()) hint live 33 Try.f33=some r33:=by kernel_rfl
def r35 : RFun :=
⟨.seq (Rg [0] [Ac 2 0])
 (.seq (.seq (Rg [0] [Mv 8 0,Ro 9 (.lenS (T 8)),Bc 10 .gtr 3 9 .i64 64])
 (.cond (T 10) (.seq (Rg [] [Ac 2 4])
 .ret)
 .skip))
 (.seq (.seq (Rg [0] [Mv 11 0,Ro 12 (.lenS (T 11)),Ol 13 (.move (Ci 0))])
 (.block 0 (.loop 4 (some [0,11,12,13]) (some [0,11,12,13]))))
 (.seq (Rg [0] [Ro 5 (.new 64 [.bool false,.bool false,.bool false,.bool false,.bool false,.bool false,.bool false,.bool false,.bool false,.bool false,.bool false,.bool false,.bool false,.bool false,.bool false,.bool false,.bool false,.bool false,.bool false,.bool false,.bool false,.bool false,.bool false,.bool false,.bool false,.bool false,.bool false,.bool false,.bool false,.bool false,.bool false,.bool false,.bool false,.bool false,.bool false,.bool false,.bool false,.bool false,.bool false,.bool false,.bool false,.bool false,.bool false,.bool false,.bool false,.bool false,.bool false,.bool false,.bool false,.bool false,.bool false,.bool false,.bool false,.bool false,.bool false,.bool false,.bool false,.bool false,.bool false,.bool false,.bool false,.bool false,.bool false,.bool false])])
 (.seq (.seq (Rg [0,5] [Mv 45 0,Ro 46 (.lenS (T 45)),Ol 47 (.move (Ci 0))])
 (.block 2 (.loop 11 (some [5,45,46,47]) (some [5,45,46,47]))))
 (.seq (Rg [] [Ac 2 0])
 .ret))))),
 [.tmp 2],
 [(4,⟨some [0,11,12,13],some [0,11,12,13],.seq (Rg [0,11,12,13] [Bt 14 .lss 3 13 12])
 (.seq (.cond (T 14) .skip
 (.exit 0 (some [0])))
 (.seq (.block 1 (.seq (Rg [0,11,12,13] [Ix 15 6 11 13,Ro 16 (.load 6 [.int .i64,.int .i64,.int .i64,.int .i64,.int .i64,.int .i64] (T 15)),Nw 4 6 [.int .i64 0,.int .i64 0,.int .i64 0,.int .i64 0,.int .i64 0,.int .i64 0],Sr 6 4 16])
 (.seq (Rg [0,4,11,12,13] [Fa 17 0 4,L1 18 17,Bc 19 .lss 3 18 .i64 0,Mv 20 19,Hf 21 20 (.fieldAddr 0 (T 4)),Hf 22 20 (.load1 (.int .i64) (T 21)),Hf 23 20 (.fieldAddr 1 (T 4)),Hf 24 20 (.load1 (.int .i64) (T 23)),Gf 25 20 (.binOp .geq 3 (T 22) (T 24) 3),Ol 26 (.pick (T 20) (.const (.bool true)) (T 25)),Mv 27 26,Hf 28 27 (.fieldAddr 1 (T 4)),Hf 29 27 (.load1 (.int .i64) (T 28)),⟨some 30,some (27,false),.call (.func 61) [T 29] vB⟩,Gf 31 27 (.unOp .not 4 (T 30)),Ol 32 (.pick (T 27) (.const (.bool true)) (T 31)),Mv 33 32,Hf 34 33 (.fieldAddr 5 (T 4)),Hf 35 33 (.load1 (.int .i64) (T 34)),Gf 36 33 (.binOp .lss 3 (T 35) (Ci 0) 3),Ol 37 (.pick (T 33) (.const (.bool true)) (T 36)),Mv 38 37,Hf 39 38 (.fieldAddr 2 (T 4)),Hf 40 38 (.load 3 [.int .i64,.int .i64,.int .i64] (T 39)),⟨some 41,some (38,false),.call (.func 62) [T 40] vI⟩,Gf 42 38 (.binOp .neq 24 (T 41) (Ci 0) 24),Ol 43 (.pick (T 38) (.const (.bool true)) (T 42))])
 (.cond (T 43) (.seq (Rg [] [Ac 2 8])
 .ret)
 .skip))))
 (Rg [0,11,12,13] [Bc 44 .add 3 13 .i64 1,Mv 13 44])))⟩),(11,⟨some [5,45,46,47],some [5,45,46,47],.seq (Rg [5,45,46,47] [Bt 48 .lss 3 47 46])
 (.seq (.cond (T 48) .skip
 (.exit 2 (some [])))
 (.seq (.block 3 (.seq (Rg [5,45,46,47] [Ix 49 6 45 47,Ro 50 (.load 6 [.int .i64,.int .i64,.int .i64,.int .i64,.int .i64,.int .i64] (T 49)),Nw 7 6 [.int .i64 0,.int .i64 0,.int .i64 0,.int .i64 0,.int .i64 0,.int .i64 0],Sr 6 7 50])
 (.seq (.seq (.draw (some [5,7,45,46,47]) 7 [Dr (Fa 51 0 7) 0 [1,4,5,6],Db (L1 52 51) 1 51 [4,5,6],Dr (Fa 53 1 7) 2 [3,5,6],Db (L1 54 53) 3 53 [5,6],Dr (Ro 55 (.ixA 8 8 (T 5) (T 52))) 4 [5,6],Dr (Ro 56 (.ixA 8 1 (T 55) (T 54))) 5 [6],Db (Ro 57 (.load1 .bool (T 56))) 6 56 []])
 (.cond (T 57) (.seq (Rg [] [Ac 2 14])
 .ret)
 .skip))
 (.draw (some [5,7,45,46,47]) 7 [Dr (Fa 58 0 7) 0 [1,4,5,6],Db (L1 59 58) 1 58 [4,5,6],Dr (Fa 60 1 7) 2 [3,5,6],Db (L1 61 60) 3 60 [5,6],Dr (Ro 62 (.ixA 8 8 (T 5) (T 59))) 4 [5,6],Dr (Ro 63 (.ixA 8 1 (T 62) (T 61))) 5 [6],⟨⟨none,none,.op false (.store 1 (T 63) (.const (.bool true)))⟩,6,.blk (T 63),[],true,true⟩]))))
 (Rg [5,45,46,47] [Bc 64 .add 3 47 .i64 1,Mv 47 64])))⟩)],
 []⟩
theorem r35_ok:resFun (progU ()) hint live 35 Try.f35=some r35:=by kernel_rfl
def r36 : RFun :=
⟨.seq (Rg [0] [Ol 2 (.assign (.const (.slice none 0 0))),Ac 3 0])
 (.seq (Rg [0] [Mv 10 0,Ca 11 43 [T 10] (some (.val (.one .any))),As 4 11])
 (.seq (Rg [0,4] [Ol 5 (.assign (.const (.slice none 0 0)))])
 (.seq (Rg [0,4,5] [Ac 6 0])
 (.seq (.seq (Rg [0,4,5,6] [Mv 12 4,Ca 13 63 [T 12] vI,As 7 13])
 (.block 0 (.loop 5 none (some [0,4,5,6,7]))))
 (.seq (Rg [5,6] [Mv 46 5,Mv 47 6,As 2 46,As 3 47])
 .ret))))),
 [.tmp 2,.tmp 3],
 [(5,⟨none,some [0,4,5,6,7],.seq (.seq (Rg [0,4,5,6,7] [Mv 14 7,Bc 15 .geq 3 14 .i64 0])
 (.cond (T 15) .skip
 (.exit 0 (some [5,6]))))
 (.seq (.block 1 (.seq (Rg [0,4,5,6,7] [Mv 18 4,Mv 19 7,⟨none,none,.op false (.old (.mapUpdate 76 (T 18) (T 19) (.const (.bool true))))⟩])
 (.seq (Rg [0,4,5,6] [Mv 20 6,Bc 21 .add 3 20 .i64 1,As 6 21])
 (.seq (Rg [0,4,5,6] [Mv 23 0,Mv 24 4,Ca 25 64 [T 23,T 24] (some (.tup [.agg s2,.one .bool])),Mv 22 25,Ex 26 22 0,Ex 27 22 1,Ro 8 (.new 2 z2),Sr 2 8 26,As 9 27])
 (.block 2 (.loop 10 none (some [0,4,5,6,8,9])))))))
 (Rg [0,4,5,6] [Mv 16 4,Ca 17 63 [T 16] vI,As 7 17]))⟩),(10,⟨none,some [0,4,5,6,8,9],.seq (.seq (Rg [0,4,5,6,8,9] [Mv 28 9])
 (.cond (T 28) .skip
 (.exit 2 (some [0,4,5,6]))))
 (.seq (.block 3 (.seq (Rg [0,4,5,6,8] [Mv 35 4,Fa 36 0 8,L1 37 36,⟨none,none,.op false (.old (.mapUpdate 76 (T 35) (T 37) (.const (.bool true))))⟩])
 (.seq (Rg [0,4,5,6,8] [Mv 38 4,Fa 39 1 8,L1 40 39,⟨none,none,.op false (.old (.mapUpdate 76 (T 38) (T 40) (.const (.bool true))))⟩])
 (Rg [0,4,5,6,8] [Mv 41 5,Ld 42 8,Ro 43 (.buildSlice 2 1 z2 [(0,2,(T 42))]),⟨some 44,none,.op false (.old (.call ⟨.builtin .append,#[T 41,T 43],#[23,23]⟩))⟩,As 5 44]))))
 (.seq (.seq (Rg [0,4,5,6,8] [Ld 45 8])
 (Rg [0,4,5,6,45] [Ro 8 (.new 2 z2),Sr 2 8 45]))
 (Rg [0,4,5,6,8] [Mv 30 0,Mv 31 4,Ca 32 64 [T 30,T 31] (some (.tup [.agg s2,.one .bool])),Mv 29 32,Ex 33 29 0,Ex 34 29 1,Sr 2 8 33,As 9 34])))⟩)],
 []⟩
theorem r36_ok:resFun (progU ()) hint live 36 Try.f36=some r36:=by kernel_rfl
def r37 : RFun :=
⟨.seq (Rg [0] [Ol 2 (.assign (.const (.slice none 0 0))),Ac 3 0])
 (.seq (Rg [0] [Mv 11 0,Ca 12 24 [T 11] (some (.val (.one .slice))),As 4 12])
 (.seq (Rg [0,4] [Ro 13 (.mkSlice 1 [.bool false] (Ci 8) (Ci 8)),As 5 13])
 (.seq (Rg [0,4,5] [Ol 6 (.assign (.const (.slice none 0 0)))])
 (.seq (Rg [0,4,5,6] [Ac 7 0])
 (.seq (.seq (Rg [0,4,5,6,7] [Ac 8 0])
 (.block 0 (.loop 6 (some [0,4,5,6,7,8]) (some [0,4,5,6,7,8]))))
 (.seq (Rg [6,7] [Mv 82 6,Mv 83 7,As 2 82,As 3 83])
 .ret)))))),
 [.tmp 2,.tmp 3],
 [(6,⟨some [0,4,5,6,7,8],some [0,4,5,6,7,8],.seq (.seq (Rg [0,4,5,6,7,8] [Mv 14 8,Bc 15 .lss 3 14 .i64 8])
 (.cond (T 15) .skip
 (.exit 0 (some [6,7]))))
 (.seq (.block 1 (.seq (.seq (Rg [0,4,5,6,7,8] [Mv 18 0,Mv 19 8,Ca 20 27 [T 18,T 19] vB,Ol 21 (.unOp .not 4 (T 20)),Mv 22 21,Gf 23 22 (.move (T 5)),Gf 24 22 (.move (T 8)),Hf 25 22 (.ixS 1 (T 23) (T 24)),Hf 26 22 (.load1 .bool (T 25)),Ol 27 (.pick (T 22) (.const (.bool true)) (T 26))])
 (.cond (T 27) (.exit 1 (some [0,4,5,6,7,8]))
 .skip))
 (.seq (Rg [0,4,5,6,7,8] [Mv 28 5,Mv 29 8,Ix 30 1 28 29,⟨none,none,.op false (.store 1 (T 30) (.const (.bool true)))⟩])
 (.seq (Rg [0,4,5,6,7,8] [Mv 31 7,Bc 32 .add 3 31 .i64 1,As 7 32])
 (.seq (Rg [0,4,5,6,7,8] [Ol 9 (.assign (.const (.bool true)))])
 (.block 2 (.loop 12 (some [0,4,5,6,7,8,9]) (some [0,4,5,6,7,8,9]))))))))
 (Rg [0,4,5,6,7,8] [Mv 16 8,Bc 17 .add 3 16 .i64 1,As 8 17]))⟩),(12,⟨some [0,4,5,6,7,8,9],some [0,4,5,6,7,8,9],.seq (.seq (Rg [0,4,5,6,7,8,9] [Mv 33 9])
 (.cond (T 33) .skip
 (.exit 2 (some [0,4,5,6,7,8]))))
 (.block 3 (.seq (Rg [0,4,5,6,7,8] [Ol 9 (.assign (.const (.bool false)))])
 (.seq (Rg [0,4,5,6,7,8,9] [Ac 10 0])
 (.block 4 (.loop 15 (some [0,4,5,6,7,8,9,10]) (some [0,4,5,6,7,8,9,10]))))))⟩),(15,⟨some [0,4,5,6,7,8,9,10],some [0,4,5,6,7,8,9,10],.seq (.seq (Rg [0,4,5,6,7,8,9,10] [Mv 34 10,Mv 35 4,Ro 36 (.lenS (T 35)),Bt 37 .lss 3 34 36,Mv 38 37,Gt 39 38 (.move (T 9)),Gt 40 38 (.unOp .not 4 (T 39)),Ol 41 (.pick (T 38) (T 40) (.const (.bool false)))])
 (.cond (T 41) .skip
 (.exit 4 (some [0,4,5,6,7,8,9]))))
 (.seq (.block 5 (.seq (.draw (some [0,4,5,6,7,8,9,10]) 17 [Dr (Mv 44 5) 0 [6,7,16],Dr (Mv 45 4) 1 [3,4,5,6,7,16],Dr (Mv 46 10) 2 [3,4,5,6,7,16],Dr (Ix 47 2 45 46) 3 [4,5,6,7,16],Dr (Fa 48 0 47) 4 [5,6,7,16],Db (L1 49 48) 5 48 [6,7,16],Dr (Ix 50 1 44 49) 6 [7,16],Db (Ro 51 (.load1 .bool (T 50))) 7 50 [16],Dr (Mv 52 5) 8 [14,15,16],Dr (Mv 53 4) 9 [11,12,13,14,15,16],Dr (Mv 54 10) 10 [11,12,13,14,15,16],Dr (Ix 55 2 53 54) 11 [12,13,14,15,16],Dr (Fa 56 1 55) 12 [13,14,15,16],Db (L1 57 56) 13 56 [14,15,16],Dr (Ix 58 1 52 57) 14 [15,16],Db (Ro 59 (.load1 .bool (T 58))) 15 58 [16],Dr (Bt 60 .neq 4 51 59) 16 []])
 (.cond (T 60) (.seq (.draw (some [0,4,5,6,7,8,10]) 16 [Dr (Mv 61 5) 0 [12,13,14,15],Dr (Mv 62 4) 1 [3,4,5,12,13,14,15],Dr (Mv 63 10) 2 [3,4,5,12,13,14,15],Dr (Ix 64 2 62 63) 3 [4,5,12,13,14,15],Dr (Fa 65 0 64) 4 [5,12,13,14,15],Db (L1 66 65) 5 65 [12,13,14,15],Dr (Mv 67 5) 6 [14,15],Dr (Mv 68 4) 7 [9,10,11,12,13,14,15],Dr (Mv 69 10) 8 [9,10,11,12,13,14,15],Dr (Ix 70 2 68 69) 9 [10,11,12,13,14,15],Dr (Fa 71 1 70) 10 [11,12,13,14,15],Db (L1 72 71) 11 71 [12,13,14,15],Dr (Ix 73 1 61 66) 12 [13,14,15],⟨⟨none,none,.op false (.store 1 (T 73) (.const (.bool true)))⟩,13,.blk (T 73),[14,15],true,true⟩,Dr (Ix 74 1 67 72) 14 [15],⟨⟨none,none,.op false (.store 1 (T 74) (.const (.bool true)))⟩,15,.blk (T 74),[],true,true⟩])
 (.seq (Rg [0,4,5,6,7,8,10] [Mv 75 6,Mv 76 4,Mv 77 10,Ix 78 2 76 77,Ld 79 78,Ro 80 (.buildSlice 2 1 z2 [(0,2,(T 79))]),⟨some 81,none,.op false (.old (.call ⟨.builtin .append,#[T 75,T 80],#[23,23]⟩))⟩,As 6 81])
 (Rg [0,4,5,6,7,8,10] [Ol 9 (.assign (.const (.bool true)))])))
 .skip)))
 (Rg [0,4,5,6,7,8,9,10] [Mv 42 10,Bc 43 .add 3 42 .i64 1,As 10 43]))⟩)],
 []⟩
theorem r37_ok:resFun (progU ()) hint live 37 Try.f37=some r37:=by kernel_rfl
def r38 : RFun :=
⟨.seq (Rg [0,1] [Ro 3 (.box 1 (T 1)),Ol 4 (.assign (.const (.slice none 0 0)))])
 (.seq (Rg [0,3,4] [Ro 5 (.new 1 [.slice none 0 0])])
 (.seq (.seq (Rg [0,3,4,5] [Mv 7 0,Ca 8 65 [T 7] (some (.val (.one .any)))])
 (.block 0 (.range 3)))
 (.seq (Rg [5] [Ro 18 (.load1 .slice (T 5)),As 4 18])
 .ret))),
 [.tmp 4],
 [],
 [(3,⟨T 8,[9],Rg [3,5,9] [Ro 6 (.new 2 z2),Sr 2 6 9],.block 1 (.seq (Rg [3,5,6] [Ro 10 (.load1 .any (T 3)),Ld 11 6,Ol 12 (.lookup 71 (T 10) (T 11) false),Ol 13 (.unOp .not 4 (T 12))])
 (.cond (T 13) (Rg [5,6] [Ro 14 (.load1 .slice (T 5)),Ld 15 6,Ro 16 (.buildSlice 2 1 z2 [(0,2,(T 15))]),⟨some 17,none,.op false (.old (.call ⟨.builtin .append,#[T 14,T 16],#[23,23]⟩))⟩,Sr 1 5 17])
 .skip))⟩)]⟩
theorem r38_ok:resFun (progU ()) hint live 38 Try.f38=some r38:=by kernel_rfl
def r39 : RFun :=
⟨.seq (Rg [0] [Ol 2 (.assign (.const (.map none)))])
 (.seq (Rg [0] [Mv 9 0,Ca 10 36 [T 9] (some (.tup [.one .slice,.one (.int .i64)])),Mv 8 10,Ex 11 8 0,Ex 12 8 1,As 3 11,As 4 12])
 (.seq (Rg [3] [Ol 13 (.makeMap 71 none),As 5 13])
 (.seq (.seq (Rg [3,5] [Mv 14 3,Ro 15 (.lenS (T 14)),Ol 16 (.move (Ci 0))])
 (.block 0 (.loop 4 (some [5,14,15,16]) (some [5,14,15,16]))))
 (.seq (Rg [5] [Mv 23 5,As 2 23])
 .ret)))),
 [.tmp 2],
 [(4,⟨some [5,14,15,16],some [5,14,15,16],.seq (Rg [5,14,15,16] [Bt 17 .lss 3 16 15])
 (.seq (.cond (T 17) .skip
 (.exit 0 (some [5])))
 (.seq (.block 1 (.seq (Rg [5,14,15,16] [Ix 18 2 14 16,Ld 19 18,Nw 7 2 z2,Sr 2 7 19])
 (Rg [5,7,14,15,16] [Mv 20 5,Ld 21 7,⟨none,none,.op false (.old (.mapUpdate 71 (T 20) (T 21) (.const (.bool true))))⟩])))
 (Rg [5,14,15,16] [Bc 22 .add 3 16 .i64 1,Mv 16 22])))⟩)],
 []⟩
theorem r39_ok:resFun (progU ()) hint live 39 Try.f39=some r39:=by kernel_rfl
def r40 : RFun :=
⟨.seq (Rg [0] [Ol 2 (.assign (.const (.slice none 0 0)))])
 (.seq (Rg [0] [Mv 9 0,Ca 10 37 [T 9] (some (.tup [.one .slice,.one (.int .i64)])),Mv 8 10,Ex 11 8 0,Ex 12 8 1,As 3 11,As 4 12])
 (.seq (Rg [0,3] [Mv 13 0,Ca 14 24 [T 13] (some (.val (.one .slice))),As 5 14])
 (.seq (Rg [3,5] [Ol 6 (.assign (.const (.slice none 0 0)))])
 (.seq (.seq (Rg [3,5,6] [Ac 7 0])
 (.block 0 (.loop 5 none (some [3,5,6,7]))))
 (.seq (Rg [6] [Mv 35 6,As 2 35])
 .ret))))),
 [.tmp 2],
 [(5,⟨none,some [3,5,6,7],.seq (.seq (Rg [3,5,6,7] [Mv 15 7,Mv 16 5,Ro 17 (.lenS (T 16)),Bt 18 .lss 3 15 17])
 (.cond (T 18) .skip
 (.exit 0 (some [6]))))
 (.seq (.block 1 (.seq (Rg [3,5,6,7] [Mv 21 3,Mv 22 5,Mv 23 7,Ix 24 2 22 23,Ld 25 24,Ca 26 47 [T 21,T 25] vB,Ol 27 (.unOp .not 4 (T 26))])
 (.cond (T 27) (Rg [3,5,6,7] [Mv 28 6,Mv 29 5,Mv 30 7,Ix 31 2 29 30,Ld 32 31,Ro 33 (.buildSlice 2 1 z2 [(0,2,(T 32))]),⟨some 34,none,.op false (.old (.call ⟨.builtin .append,#[T 28,T 33],#[23,23]⟩))⟩,As 6 34])
 .skip)))
 (Rg [3,5,6,7] [Mv 19 7,Bc 20 .add 3 19 .i64 1,As 7 20]))⟩)],
 []⟩
theorem r40_ok:resFun (progU ()) hint live 40 Try.f40=some r40:=by kernel_rfl
def r41 : RFun :=
⟨.seq (Rg [0] [Ol 2 (.assign (.const (.slice none 0 0))),Ol 3 (.assign (.const (.slice none 0 0)))])
 (.seq (Rg [0] [Mv 11 0,Ca 12 39 [T 11] (some (.val (.one .any))),As 4 12])
 (.seq (Rg [0,4] [Mv 13 0,Mv 14 4,Ca 15 38 [T 13,T 14] (some (.val (.one .slice))),As 5 15])
 (.seq (Rg [4,5] [Ol 6 (.assign (.const (.slice none 0 0)))])
 (.seq (.seq (Rg [4,5,6] [Mv 16 5,Ro 17 (.lenS (T 16)),Ol 18 (.move (Ci 0))])
 (.block 0 (.loop 5 (some [4,5,6,16,17,18]) (some [4,5,6,16,17,18]))))
 (.seq (Rg [5,6] [Mv 42 5,Mv 43 6,As 2 42,As 3 43])
 .ret))))),
 [.tmp 2,.tmp 3],
 [(5,⟨some [4,5,6,16,17,18],some [4,5,6,16,17,18],.seq (Rg [4,5,6,16,17,18] [Bt 19 .lss 3 18 17])
 (.seq (.cond (T 19) .skip
 (.exit 0 (some [5,6])))
 (.seq (.block 1 (.seq (Rg [4,5,6,16,17,18] [Ix 20 2 16 18,Ld 21 20,Nw 8 2 z2,Sr 2 8 21])
 (.seq (Rg [4,5,6,8,16,17,18] [Mv 22 4,Fa 23 1 8,L1 24 23,Fa 25 0 8,L1 26 25,Ca 27 44 [T 22,T 24,T 26] (some (.val (.one .slice))),As 9 27])
 (.seq (Rg [4,5,6,8,9,16,17,18] [Fa 28 0 8,L1 29 28,Ro 30 (.buildSlice 1 1 [.int .i64 0] [(0,1,(T 29))]),As 10 30])
 (Rg [4,5,6,9,10,16,17,18] [Mv 31 6,Mv 32 10,Mv 33 9,Mv 34 9,Ro 35 (.lenS (T 34)),Bc 36 .sub 3 35 .i64 1,Ro 37 (.cutS 38 (T 33) none (some (T 36)) none),⟨some 38,none,.op false (.old (.call ⟨.builtin .append,#[T 32,T 37],#[38,38]⟩))⟩,Ro 39 (.buildSlice 1 1 [.slice none 0 0] [(0,1,(T 38))]),⟨some 40,none,.op false (.old (.call ⟨.builtin .append,#[T 31,T 39],#[33,33]⟩))⟩,As 6 40])))))
 (Rg [4,5,6,16,17,18] [Bc 41 .add 3 18 .i64 1,Mv 18 41])))⟩)],
 []⟩
theorem r41_ok:resFun (progU ()) hint live 41 Try.f41=some r41:=by kernel_rfl
def r42 : RFun :=
⟨.seq (Rg [0] [Ol 2 (.assign (.const (.slice none 0 0)))])
 (.seq (Rg [0] [Mv 10 0,Ca 11 37 [T 10] (some (.tup [.one .slice,.one (.int .i64)])),Mv 9 11,Ex 12 9 0,Ex 13 9 1,As 3 12,As 4 13])
 (.seq (Rg [0,3] [Mv 14 0,Ca 15 40 [T 14] (some (.val (.one .slice))),As 5 15])
 (.seq (Rg [3,5] [Ol 6 (.assign (.const (.slice none 0 0)))])
 (.seq (.seq (Rg [3,5,6] [Ac 7 0])
 (.block 0 (.loop 5 (some [3,5,6,7]) (some [3,5,6,7]))))
 (.seq (Rg [6] [Mv 49 6,As 2 49])
 .ret))))),
 [.tmp 2],
 [(5,⟨some [3,5,6,7],some [3,5,6,7],.seq (.seq (Rg [3,5,6,7] [Mv 16 7,Mv 17 5,Ro 18 (.lenS (T 17)),Bt 19 .lss 3 16 18])
 (.cond (T 19) .skip
 (.exit 0 (some [6]))))
 (.seq (.block 1 (.seq (.draw (some [3,5,6,7]) 13 [Dr (Mv 22 3) 0 [11,12],Dr (Mv 23 5) 1 [3,4,5,11,12],Dr (Mv 24 7) 2 [3,4,5,11,12],Dr (Ix 25 2 23 24) 3 [4,5,11,12],Dr (Fa 26 1 25) 4 [5,11,12],Db (L1 27 26) 5 26 [11,12],Dr (Mv 28 5) 6 [8,9,10,11,12],Dr (Mv 29 7) 7 [8,9,10,11,12],Dr (Ix 30 2 28 29) 8 [9,10,11,12],Dr (Fa 31 0 30) 9 [10,11,12],Db (L1 32 31) 10 31 [11,12],⟨Ca 33 45 [T 22,T 27,T 32,.const (.int .i64 (-1))] (some (.val (.one .slice))),11,.all,[12],false,false⟩,Dr (As 8 33) 12 []])
 (.draw (some [3,5,6,7,8]) 16 [Dr (Mv 34 6) 0 [14,15],Dr (Mv 35 5) 1 [3,4,5,6,12,13,14,15],Dr (Mv 36 7) 2 [3,4,5,6,12,13,14,15],Dr (Ix 37 2 35 36) 3 [4,5,6,12,13,14,15],Dr (Fa 38 0 37) 4 [5,6,12,13,14,15],Db (L1 39 38) 5 38 [6,12,13,14,15],⟨Ro 40 (.buildSlice 1 1 [.int .i64 0] [(0,1,(T 39))]),6,.new false,[12,13,14,15],false,true⟩,Dr (Mv 41 8) 7 [11,12,13,14,15],Dr (Mv 42 8) 8 [9,10,11,12,13,14,15],Dr (Ro 43 (.lenS (T 42))) 9 [10,11,12,13,14,15],Dr (Bc 44 .sub 3 43 .i64 1) 10 [11,12,13,14,15],Dr (Ro 45 (.cutS 38 (T 41) none (some (T 44)) none)) 11 [12,13,14,15],⟨⟨some 46,none,.op false (.old (.call ⟨.builtin .append,#[T 40,T 45],#[38,38]⟩))⟩,12,.app [T 40,T 45],[13,14,15],false,false⟩,⟨Ro 47 (.buildSlice 1 1 [.slice none 0 0] [(0,1,(T 46))]),13,.new false,[14,15],false,true⟩,⟨⟨some 48,none,.op false (.old (.call ⟨.builtin .append,#[T 34,T 47],#[33,33]⟩))⟩,14,.app [T 34,T 47],[15],false,false⟩,Dr (As 6 48) 15 []])))
 (Rg [3,5,6,7] [Mv 20 7,Bc 21 .add 3 20 .i64 1,As 7 21]))⟩)],
 []⟩
theorem r42_ok:resFun (progU ()) hint live 42 Try.f42=some r42:=by kernel_rfl
def r43 : RFun :=
⟨.seq (Rg [0] [Ol 2 (.assign (.const (.map none)))])
 (.seq (Rg [0] [Ol 6 (.makeMap 76 none),As 3 6])
 (.seq (.seq (Rg [0,3] [Mv 7 0,Ro 8 (.lenS (T 7)),Ol 9 (.move (Ci 0))])
 (.block 0 (.loop 3 (some [3,7,8,9]) (some [3,7,8,9]))))
 (.seq (Rg [3] [Mv 20 3,As 2 20])
 .ret))),
 [.tmp 2],
 [(3,⟨some [3,7,8,9],some [3,7,8,9],.seq (Rg [3,7,8,9] [Bt 10 .lss 3 9 8])
 (.seq (.cond (T 10) .skip
 (.exit 0 (some [3])))
 (.seq (.block 1 (.seq (Rg [3,7,8,9] [Ix 11 6 7 9,Ro 12 (.load 6 [.int .i64,.int .i64,.int .i64,.int .i64,.int .i64,.int .i64] (T 11)),Nw 5 6 [.int .i64 0,.int .i64 0,.int .i64 0,.int .i64 0,.int .i64 0,.int .i64 0],Sr 6 5 12])
 (.seq (Rg [3,5,7,8,9] [Mv 13 3,Fa 14 0 5,L1 15 14,⟨none,none,.op false (.old (.mapUpdate 76 (T 13) (T 15) (.const (.bool false))))⟩])
 (Rg [3,5,7,8,9] [Mv 16 3,Fa 17 1 5,L1 18 17,⟨none,none,.op false (.old (.mapUpdate 76 (T 16) (T 18) (.const (.bool false))))⟩]))))
 (Rg [3,7,8,9] [Bc 19 .add 3 9 .i64 1,Mv 9 19])))⟩)],
 []⟩
theorem r43_ok:resFun (progU ()) hint live 43 Try.f43=some r43:=by kernel_rfl
def r45 : RFun :=
⟨.seq (Rg [0,1,2,3] [Ol 8 (.assign (.const (.slice none 0 0)))])
 (.seq (.seq (Rg [0,1,2,3] [Mv 12 1,Mv 13 2,Bt 14 .eql 3 12 13])
 (.cond (T 14) (.seq (Rg [1] [Mv 15 1,Ro 16 (.buildSlice 1 1 [.int .i64 0] [(0,1,(T 15))]),As 8 16])
 .ret)
 .skip))
 (.seq (.seq (Rg [0,1,2,3] [Ac 9 0])
 (.block 0 (.loop 4 none (some [0,1,2,3,9]))))
 (.seq (Rg [] [Ol 8 (.assign (.const (.slice none 0 0)))])
 .ret))),
 [.tmp 8],
 [(4,⟨none,some [0,1,2,3,9],.seq (.seq (Rg [0,1,2,3,9] [Mv 17 9,Mv 18 0,Ro 19 (.lenS (T 18)),Bt 20 .lss 3 17 19])
 (.cond (T 20) .skip
 (.exit 0 (some []))))
 (.seq (.block 1 (.seq (Rg [0,1,2,3,9] [Ol 10 (.assign (.const (.int .i64 (-1))))])
 (.seq (.seq (Rg [0,1,2,3,9,10] [Mv 23 0,Mv 24 9,Ix 25 2 23 24,Fa 26 0 25,L1 27 26,Mv 28 1,Bt 29 .eql 3 27 28])
 (.cond (T 29) (Rg [0,1,2,3,9] [Mv 30 0,Mv 31 9,Ix 32 2 30 31,Fa 33 1 32,L1 34 33,As 10 34])
 .skip))
 (.seq (.seq (Rg [0,1,2,3,9,10] [Mv 35 0,Mv 36 9,Ix 37 2 35 36,Fa 38 1 37,L1 39 38,Mv 40 1,Bt 41 .eql 3 39 40])
 (.cond (T 41) (Rg [0,1,2,3,9] [Mv 42 0,Mv 43 9,Ix 44 2 42 43,Fa 45 0 44,L1 46 45,As 10 46])
 .skip))
 (.seq (.seq (Rg [0,1,2,3,9,10] [Mv 47 10,Bc 48 .lss 3 47 .i64 0,Mv 49 48,Gf 50 49 (.move (T 10)),Gf 51 49 (.move (T 3)),Gf 52 49 (.binOp .eql 3 (T 50) (T 51) 3),Ol 53 (.pick (T 49) (.const (.bool true)) (T 52))])
 (.cond (T 53) (.exit 1 (some [0,1,2,3,9]))
 .skip))
 (.seq (Rg [0,1,2,3,9,10] [Mv 54 0,Mv 55 10,Mv 56 2,Mv 57 1,Ca 58 45 [T 54,T 55,T 56,T 57] (some (.val (.one .slice))),As 11 58])
 (.seq (Rg [0,1,2,3,9,11] [Mv 59 11,Ro 60 (.lenS (T 59)),Bc 61 .gtr 3 60 .i64 0])
 (.cond (T 61) (.seq (Rg [1,11] [Mv 62 1,Ro 63 (.buildSlice 1 1 [.int .i64 0] [(0,1,(T 62))]),Mv 64 11,⟨some 65,none,.op false (.old (.call ⟨.builtin .append,#[T 63,T 64],#[38,38]⟩))⟩,As 8 65])
 .ret)
 .skip))))))))
 (Rg [0,1,2,3,9] [Mv 21 9,Bc 22 .add 3 21 .i64 1,As 9 22]))⟩)],
 []⟩
theorem r45_ok:resFun (progU ()) hint live 45 Try.f45=some r45:=by kernel_rfl
def r46 : RFun :=
⟨.seq (Rg [0,1] [Ac 4 0])
 (.seq (.seq (Rg [0,1] [Mv 6 0,Ro 7 (.lenS (T 6)),Bc 8 .gtr 3 7 .i64 64])
 (.cond (T 8) (.seq (Rg [] [Ac 4 4])
 .ret)
 .skip))
 (.seq (.seq (Rg [0,1] [Ac 5 0])
 (.block 0 (.loop 4 none (some [0,1,5]))))
 (.seq (Rg [] [Ac 4 0])
 .ret))),
 [.tmp 4],
 [(4,⟨none,some [0,1,5],.seq (.seq (Rg [0,1,5] [Mv 9 5,Mv 10 0,Ro 11 (.lenS (T 10)),Bt 12 .lss 3 9 11])
 (.cond (T 12) .skip
 (.exit 0 (some []))))
 (.seq (.block 1 (.seq (Rg [0,1,5] [Mv 15 0,Mv 16 5,Ix 17 6 15 16,Ro 18 (.load 6 [.int .i64,.int .i64,.int .i64,.int .i64,.int .i64,.int .i64] (T 17)),Mv 19 1,Ca 20 66 [T 18,T 19] vB,Ol 21 (.unOp .not 4 (T 20))])
 (.cond (T 21) (.seq (Rg [] [Ac 4 8])
 .ret)
 .skip)))
 (Rg [0,1,5] [Mv 13 5,Bc 14 .add 3 13 .i64 1,As 5 14]))⟩)],
 []⟩
theorem r46_ok:resFun (progU ()) hint live 46 Try.f46=some r46:=by kernel_rfl
def r47 : RFun :=
⟨.seq (Rg [0,1] [Bo 3 2 1,Ol 4 (.assign (.const (.bool false)))])
 (.seq (.seq (Rg [0,3] [Ac 5 0])
 (.block 0 (.loop 2 (some [0,3,5]) (some [0,3,5]))))
 (.seq (Rg [] [Ol 4 (.assign (.const (.bool false)))])
 .ret)),
 [.tmp 4],
 [(2,⟨some [0,3,5],some [0,3,5],.seq (.seq (Rg [0,3,5] [Mv 6 5,Mv 7 0,Ro 8 (.lenS (T 7)),Bt 9 .lss 3 6 8])
 (.cond (T 9) .skip
 (.exit 0 (some []))))
 (.seq (.block 1 (.seq (.draw (some [0,3,5]) 6 [Dr (Mv 12 0) 0 [2,3,5],Dr (Mv 13 5) 1 [2,3,5],Dr (Ix 14 2 12 13) 2 [3,5],Db (Ld 15 14) 3 14 [5],Db (Ld 16 3) 4 3 [5],Dr (Bt 17 .eql 54 15 16) 5 []])
 (.cond (T 17) (.seq (Rg [] [Ol 4 (.assign (.const (.bool true)))])
 .ret)
 .skip)))
 (Rg [0,3,5] [Mv 10 5,Bc 11 .add 3 10 .i64 1,As 5 11]))⟩)],
 []⟩
theorem r47_ok:resFun (progU ()) hint live 47 Try.f47=some r47:=by kernel_rfl
def r48 : RFun :=
⟨.seq (Rg [0] [Bo 1 3 0,Nw 2 3 [.int .i64 0,.int .i64 0,.int .i64 0],Ac 3 0])
 (.seq (.seq (Rg [1,2] [Ro 5 (.load 3 [.int .i64,.int .i64,.int .i64] (T 1)),Ca 6 62 [T 5] vI,As 4 6])
 (.seq (Rg [1,2,4] [Mv 7 4,Bc 8 .neq 24 7 .i64 0])
 (.cond (T 8) (.seq (Rg [2,4] [Ro 9 (.build [.int .i64 0,.int .i64 0,.int .i64 0] []),Mv 10 4,Sr 3 2 9,As 3 10])
 .ret)
 .skip)))
 (.seq (Rg [1,2] [Fa 11 1 1,L1 12 11,Ol 13 (.unOp .neg 2 (T 12)),Fa 14 1 1,Sr 1 14 13])
 (.seq (Rg [1,2] [Ro 15 (.load 3 [.int .i64,.int .i64,.int .i64] (T 1)),Sr 3 2 15,Ac 3 0])
 .ret))),
 [.agg 2 3 [.int .i64,.int .i64,.int .i64],.tmp 3],
 [],
 []⟩
theorem r48_ok:resFun (progU ()) hint live 48 Try.f48=some r48:=by kernel_rfl
def r49 : RFun :=
⟨.seq (Rg [0,1] [Bo 2 3 0,Bo 3 3 1,Nw 4 3 [.int .i64 0,.int .i64 0,.int .i64 0],Ac 5 0])
 (.seq (.seq (Rg [2,3,4] [Ro 7 (.load 3 [.int .i64,.int .i64,.int .i64] (T 2)),Ro 8 (.load 3 [.int .i64,.int .i64,.int .i64] (T 3)),Ca 9 67 [T 7,T 8] vI,As 6 9])
 (.seq (Rg [2,3,4,6] [Mv 10 6,Bc 11 .neq 24 10 .i64 0])
 (.cond (T 11) (.seq (Rg [4,6] [Ro 12 (.build [.int .i64 0,.int .i64 0,.int .i64 0] []),Mv 13 6,Sr 3 4 12,As 5 13])
 .ret)
 .skip)))
 (.seq (Rg [2,3,4] [Fa 14 0 2,L1 15 14,Fa 16 0 3,L1 17 16,Bt 18 .mul 2 15 17,Fa 19 1 2,L1 20 19,Fa 21 1 3,L1 22 21,Bt 23 .mul 2 20 22,Bt 24 .sub 2 18 23,Fa 25 0 2,L1 26 25,Fa 27 1 3,L1 28 27,Bt 29 .mul 2 26 28,Fa 30 1 2,L1 31 30,Fa 32 0 3,L1 33 32,Bt 34 .mul 2 31 33,Bt 35 .add 2 29 34,Fa 36 2 2,L1 37 36,Fa 38 2 3,L1 39 38,Bt 40 .mul 2 37 39,Ca 41 68 [T 24,T 35,T 40] (some (.tup [.agg [.int .i64,.int .i64,.int .i64],.one (.int .i64)])),Ex 42 41 0,Ex 43 41 1,Sr 3 4 42,As 5 43])
 .ret)),
 [.agg 4 3 [.int .i64,.int .i64,.int .i64],.tmp 5],
 [],
 []⟩
theorem r49_ok:resFun (progU ()) hint live 49 Try.f49=some r49:=by kernel_rfl
def r50 : RFun :=
⟨.seq (Rg [0] [Bo 1 3 0,Nw 2 3 [.int .i64 0,.int .i64 0,.int .i64 0],Ac 3 0])
 (.seq (.seq (Rg [1,2] [Ro 6 (.load 3 [.int .i64,.int .i64,.int .i64] (T 1)),Ca 7 62 [T 6] vI,As 4 7])
 (.seq (Rg [1,2,4] [Mv 8 4,Bc 9 .neq 24 8 .i64 0])
 (.cond (T 9) (.seq (Rg [2,4] [Ro 10 (.build [.int .i64 0,.int .i64 0,.int .i64 0] []),Mv 11 4,Sr 3 2 10,As 3 11])
 .ret)
 .skip)))
 (.seq (.seq (Rg [1,2] [Ro 12 (.load 3 [.int .i64,.int .i64,.int .i64] (T 1)),Ca 13 69 [T 12] vB])
 (.cond (T 13) (.seq (Rg [2] [Ro 14 (.build [.int .i64 0,.int .i64 0,.int .i64 0] []),Sr 3 2 14,Ac 3 18])
 .ret)
 .skip))
 (.seq (Rg [1,2] [Fa 15 0 1,L1 16 15,Fa 17 1 1,L1 18 17,Ca 19 70 [T 16,T 18] vI,As 5 19])
 (.seq (.draw (some [1,2,5]) 11 [Dr (Fa 20 0 1) 0 [1,3,8,9,10],Db (L1 21 20) 1 20 [3,8,9,10],Dr (Mv 22 5) 2 [3,8,9,10],Dr (Bt 23 .quo 2 21 22) 3 [8,9,10],Dr (Fa 24 1 1) 4 [5,7,8,9,10],Db (L1 25 24) 5 24 [7,8,9,10],Dr (Mv 26 5) 6 [7,8,9,10],Dr (Bt 27 .quo 2 25 26) 7 [8,9,10],Dr (Ro 28 (.build [.int .i64 0,.int .i64 0,.int .i64 0] [(0,1,(T 23)),(1,1,(T 27)),(2,1,(Ci 1))])) 8 [9,10],⟨Sr 3 2 28,9,.blk (T 2),[10],true,true⟩,Dr (Ac 3 0) 10 []])
 .ret)))),
 [.agg 2 3 [.int .i64,.int .i64,.int .i64],.tmp 3],
 [],
 []⟩
theorem r50_ok:resFun (progU ()) hint live 50 Try.f50=some r50:=by kernel_rfl
def r51 : RFun :=
⟨.seq (Rg [0,1] [Nw 4 3 [.int .i64 0,.int .i64 0,.int .i64 0],Ac 5 0])
 (.seq (.seq (Rg [0,1,4] [Mv 17 0,Ca 18 22 [T 17] vI,Bc 19 .neq 3 18 .i64 0])
 (.cond (T 19) (.seq (Rg [0,4] [Ro 20 (.build [.int .i64 0,.int .i64 0,.int .i64 0] []),Mv 21 0,Ca 22 22 [T 21] vI,Sr 3 4 20,As 5 22])
 .ret)
 .skip))
 (.seq (.seq (Rg [0,1,4] [Mv 23 1,Ca 24 25 [T 23] vB,Ol 25 (.unOp .not 4 (T 24))])
 (.cond (T 25) (.seq (Rg [4] [Ro 26 (.build [.int .i64 0,.int .i64 0,.int .i64 0] []),Sr 3 4 26,Ac 5 2])
 .ret)
 .skip))
 (.seq (Rg [0,1,4] [Ol 6 (.assign (.const (.slice none 0 0)))])
 (.seq (.seq (Rg [0,1,4,6] [Ac 7 0])
 (.block 0 (.loop 7 (some [0,1,4,6,7]) (some [0,1,4,6,7]))))
 (.seq (.seq (Rg [4,6] [Ac 10 0])
 (.block 2 (.loop 14 none (some [4,6,10]))))
 (.seq (Rg [4,6] [Ca 69 53 [] (some (.val (.agg [.int .i64,.int .i64,.int .i64]))),Nw 11 3 [.int .i64 0,.int .i64 0,.int .i64 0],Sr 3 11 69])
 (.seq (.seq (Rg [4,6,11] [Ac 12 0])
 (.block 4 (.loop 20 (some [4,6,11,12]) (some [4,6,11,12]))))
 (.seq (Rg [4,11] [Ro 98 (.load 3 [.int .i64,.int .i64,.int .i64] (T 11)),Sr 3 4 98,Ac 5 0])
 .ret)))))))),
 [.agg 4 3 [.int .i64,.int .i64,.int .i64],.tmp 5],
 [(7,⟨some [0,1,4,6,7],some [0,1,4,6,7],.seq (.seq (Rg [0,1,4,6,7] [Mv 27 7,Mv 28 1,Ro 29 (.lenS (T 28)),Bt 30 .lss 3 27 29])
 (.cond (T 30) .skip
 (.exit 0 (some [4,6]))))
 (.seq (.block 1 (.seq (.draw (some [0,1,4,6,7]) 20 [Dr (Mv 34 0) 0 [13,14,15,16,18,19],Dr (Mv 35 1) 1 [3,4,13,14,15,16,18,19],Dr (Mv 36 7) 2 [3,4,13,14,15,16,18,19],Dr (Ix 37 1 35 36) 3 [4,13,14,15,16,18,19],Db (L1 38 37) 4 37 [13,14,15,16,18,19],Dr (Mv 39 1) 5 [11,12,13,14,15,16,18,19],Dr (Mv 40 7) 6 [7,10,11,12,13,14,15,16,18,19],Dr (Bc 41 .add 3 40 .i64 1) 7 [10,11,12,13,14,15,16,18,19],Dr (Mv 42 1) 8 [9,10,11,12,13,14,15,16,18,19],Dr (Ro 43 (.lenS (T 42))) 9 [10,11,12,13,14,15,16,18,19],Dr (Bt 44 .rem 3 41 43) 10 [11,12,13,14,15,16,18,19],Dr (Ix 45 1 39 44) 11 [12,13,14,15,16,18,19],Db (L1 46 45) 12 45 [13,14,15,16,18,19],⟨Nw 8 3 [.int .i64 0,.int .i64 0,.int .i64 0],17,.new true,[18,19],false,true⟩,⟨Ca 47 71 [T 34,T 38,T 46] (some (.tup [.agg [.int .i64,.int .i64,.int .i64],.one .bool])),13,.all,[14,15,16,18,19],false,false⟩,Dr (Mv 33 47) 14 [15,16,18,19],Dr (Ex 48 33 0) 15 [18,19],Dr (Ex 49 33 1) 16 [19],⟨Sr 3 8 48,18,.blk (T 8),[19],true,true⟩,Dr (As 9 49) 19 []])
 (.seq (.seq (Rg [0,1,4,6,7,8,9] [Mv 50 9,Ol 51 (.unOp .not 4 (T 50))])
 (.cond (T 51) (.seq (Rg [4] [Ro 52 (.build [.int .i64 0,.int .i64 0,.int .i64 0] []),Sr 3 4 52,Ac 5 6])
 .ret)
 .skip))
 (Rg [0,1,4,6,7,8] [Mv 53 6,Ro 54 (.load 3 [.int .i64,.int .i64,.int .i64] (T 8)),Ro 55 (.buildSlice 3 1 [.int .i64 0,.int .i64 0,.int .i64 0] [(0,3,(T 54))]),⟨some 56,none,.op false (.old (.call ⟨.builtin .append,#[T 53,T 55],#[83,83]⟩))⟩,As 6 56]))))
 (Rg [0,1,4,6,7] [Mv 31 7,Bc 32 .add 3 31 .i64 1,As 7 32]))⟩),(14,⟨none,some [4,6,10],.seq (.seq (Rg [4,6,10] [Mv 57 10,Mv 58 6,Ro 59 (.lenS (T 58)),Bt 60 .lss 3 57 59])
 (.cond (T 60) .skip
 (.exit 2 (some [4,6]))))
 (.seq (.block 3 (.seq (Rg [4,6,10] [Mv 63 6,Mv 64 10,Ix 65 3 63 64,Ro 66 (.load 3 [.int .i64,.int .i64,.int .i64] (T 65)),Ca 67 72 [T 66] vB])
 (.cond (T 67) (.seq (Rg [4] [Ro 68 (.build [.int .i64 0,.int .i64 0,.int .i64 0] []),Sr 3 4 68,Ac 5 18])
 .ret)
 .skip)))
 (Rg [4,6,10] [Mv 61 10,Bc 62 .add 3 61 .i64 1,As 10 62]))⟩),(20,⟨some [4,6,11,12],some [4,6,11,12],.seq (.seq (Rg [4,6,11,12] [Mv 70 12,Mv 71 6,Ro 72 (.lenS (T 71)),Bt 73 .lss 3 70 72])
 (.cond (T 73) .skip
 (.exit 4 (some [4,11]))))
 (.seq (.block 5 (.seq (Rg [4,6,11,12] [Mv 77 6,Mv 78 12,Ix 79 3 77 78,Ro 80 (.load 3 [.int .i64,.int .i64,.int .i64] (T 79)),Ca 81 55 [T 80] (some (.tup [.agg [.int .i64,.int .i64,.int .i64],.one (.int .i64)])),Mv 76 81,Ex 82 76 0,Ex 83 76 1,Nw 13 3 [.int .i64 0,.int .i64 0,.int .i64 0],Sr 3 13 82,As 14 83])
 (.seq (Rg [4,6,11,12,13] [Ro 85 (.load 3 [.int .i64,.int .i64,.int .i64] (T 11)),Ro 86 (.load 3 [.int .i64,.int .i64,.int .i64] (T 13)),Ca 87 54 [T 85,T 86] (some (.tup [.agg [.int .i64,.int .i64,.int .i64],.one (.int .i64)])),Mv 84 87,Ex 88 84 0,Ex 89 84 1,Nw 15 3 [.int .i64 0,.int .i64 0,.int .i64 0],Sr 3 15 88,As 16 89])
 (.seq (.seq (Rg [4,6,11,12,15,16] [Mv 90 16,Bc 91 .neq 3 90 .i64 0])
 (.cond (T 91) (.seq (Rg [4] [Ro 92 (.build [.int .i64 0,.int .i64 0,.int .i64 0] []),Sr 3 4 92,Ac 5 16])
 .ret)
 .skip))
 (Rg [4,6,11,12,15] [Ro 94 (.load 3 [.int .i64,.int .i64,.int .i64] (T 15)),Ca 95 55 [T 94] (some (.tup [.agg [.int .i64,.int .i64,.int .i64],.one (.int .i64)])),Mv 93 95,Ex 96 93 0,Ex 97 93 1,Sr 3 11 96])))))
 (Rg [4,6,11,12] [Mv 74 12,Bc 75 .add 3 74 .i64 1,As 12 75]))⟩)],
 []⟩
theorem r51_ok:resFun (progU ()) hint live 51 Try.f51=some r51:=by kernel_rfl
def r52 : RFun :=
⟨.seq (Rg [0] [Bo 1 3 0,Nw 2 3 [.int .i64 0,.int .i64 0,.int .i64 0]])
 (.seq (Rg [1,2] [Fa 3 0 1,L1 4 3,Fa 5 1 1,L1 6 5,Ol 7 (.unOp .neg 2 (T 6)),Fa 8 2 1,L1 9 8,Ro 10 (.build [.int .i64 0,.int .i64 0,.int .i64 0] [(0,1,(T 4)),(1,1,(T 7)),(2,1,(T 9))]),Sr 3 2 10])
 .ret),
 [.agg 2 3 [.int .i64,.int .i64,.int .i64]],
 [],
 []⟩
theorem r52_ok:resFun (progU ()) hint live 52 Try.f52=some r52:=by kernel_rfl
def r53 : RFun :=
⟨.seq (Rg [] [Nw 0 3 [.int .i64 0,.int .i64 0,.int .i64 0]])
 (.seq (Rg [0] [Ro 1 (.build [.int .i64 0,.int .i64 0,.int .i64 0] [(0,1,(Ci 1)),(2,1,(Ci 1))]),Sr 3 0 1])
 .ret),
 [.agg 0 3 [.int .i64,.int .i64,.int .i64]],
 [],
 []⟩
theorem r53_ok:resFun (progU ()) hint live 53 Try.f53=some r53:=by kernel_rfl
