import Derived.Test.YtnokkniofajnhaaSeat0
import Derived.Test.YtnokkniofajnhaaSymS
set_option linter.unusedSimpArgs false
set_option linter.unusedVariables false
namespace Go.Proofs.Ytnokkniofajnhaa
open Go.Sim
set_option maxRecDepth 100000
def r17 : RFun :=
⟨.seq (Rg [0,1] [Ol 4 (.assign (.const (.slice none 0 0))),Ac 5 0])
 (.seq (.seq (Rg [0,1] [Mv 16 0,Ca 17 14 [T 16] vI,As 6 17])
 (.seq (Rg [0,1,6] [Mv 18 6,Bc 19 .neq 26 18 .i64 0])
 (.cond (T 19) (.seq (Rg [6] [Mv 20 6,Ol 4 (.assign (.const (.slice none 0 0))),As 5 20])
 .ret)
 .skip)))
 (.seq (.seq (Rg [0,1] [Mv 21 1,Ca 22 14 [T 21] vI,As 7 22])
 (.seq (Rg [0,1,7] [Mv 23 7,Bc 24 .neq 26 23 .i64 0])
 (.cond (T 24) (.seq (Rg [7] [Mv 25 7,Ol 4 (.assign (.const (.slice none 0 0))),As 5 25])
 .ret)
 .skip)))
 (.seq (.seq (.draw (some [0,1]) 28 [Dr (Mv 26 0) 0 [1,2,3,8,9,10,11,12,13,14,15,16,17,18,19,20,21,22,23,24,25,26,27],Dr (Ro 27 (.ixS 4 (T 26) (Ci 0))) 1 [2,3,8,9,10,11,12,13,14,15,16,17,18,19,20,21,22,23,24,25,26,27],Dr (Fa 28 2 27) 2 [3,8,9,10,11,12,13,14,15,16,17,18,19,20,21,22,23,24,25,26,27],Db (Ld 29 28) 3 28 [8,9,10,11,12,13,14,15,16,17,18,19,20,21,22,23,24,25,26,27],Dr (Mv 30 1) 4 [5,6,7,8,9,10,11,12,13,14,15,16,17,18,19,20,21,22,23,24,25,26,27],Dr (Ro 31 (.ixS 4 (T 30) (Ci 0))) 5 [6,7,8,9,10,11,12,13,14,15,16,17,18,19,20,21,22,23,24,25,26,27],Dr (Fa 32 0 31) 6 [7,8,9,10,11,12,13,14,15,16,17,18,19,20,21,22,23,24,25,26,27],Db (Ld 33 32) 7 32 [8,9,10,11,12,13,14,15,16,17,18,19,20,21,22,23,24,25,26,27],⟨Ca 34 34 [T 29,T 33] vI,8,.all,[9,10,11,12,13,14,15,16,17,18,19,20,21,22,23,24,25,26,27],false,false⟩,Dr (Bc 35 .lss 3 34 .i64 0) 9 [10,11,12,13,14,15,16,17,18,19,20,21,22,23,24,25,26,27],Dr (Mv 36 35) 10 [11,12,13,14,15,16,17,18,19,20,21,22,23,24,25,26,27],⟨Gf 37 36 (.move (T 0)),11,.none,[15,16,17,25,26,27],false,true⟩,⟨Gf 38 36 (.move (T 0)),12,.none,[13,14,15,16,17,25,26,27],false,true⟩,⟨Hf 39 36 (.lenS (T 38)),13,.none,[14,15,16,17,25,26,27],false,true⟩,⟨Gf 40 36 (.binOp .sub 3 (T 39) (Ci 1) 3),14,.none,[15,16,17,25,26,27],false,true⟩,⟨Hf 41 36 (.ixS 4 (T 37) (T 40)),15,.none,[16,17,25,26,27],false,true⟩,⟨Hf 42 36 (.fieldAddr 2 (T 41)),16,.none,[17,25,26,27],false,true⟩,⟨Hf 43 36 (.load 2 s2 (T 42)),17,.blk (T 42),[25,26,27],false,true⟩,⟨Gf 44 36 (.move (T 1)),18,.none,[22,23,24,25,26,27],false,true⟩,⟨Gf 45 36 (.move (T 1)),19,.none,[20,21,22,23,24,25,26,27],false,true⟩,⟨Hf 46 36 (.lenS (T 45)),20,.none,[21,22,23,24,25,26,27],false,true⟩,⟨Gf 47 36 (.binOp .sub 3 (T 46) (Ci 1) 3),21,.none,[22,23,24,25,26,27],false,true⟩,⟨Hf 48 36 (.ixS 4 (T 44) (T 47)),22,.none,[23,24,25,26,27],false,true⟩,⟨Hf 49 36 (.fieldAddr 0 (T 48)),23,.none,[24,25,26,27],false,true⟩,⟨Hf 50 36 (.load 2 s2 (T 49)),24,.blk (T 49),[25,26,27],false,true⟩,⟨⟨some 51,some (36,false),.call (.func 34) [T 43,T 50] vI⟩,25,.all,[26,27],false,false⟩,⟨Gf 52 36 (.binOp .gtr 3 (T 51) (Ci 0) 3),26,.none,[27],false,true⟩,Dr (Ol 53 (.pick (T 36) (.const (.bool true)) (T 52))) 27 []])
 (.cond (T 53) (.seq (Rg [] [Ol 4 (.assign (.const (.slice none 0 0))),Ac 5 6])
 .ret)
 .skip))
 (.seq (Rg [0,1] [Mv 54 0,Mv 55 1,Ca 56 39 [T 54,T 55] (some (.val (.one .slice))),As 8 56])
 (.seq (.seq (Rg [0,1,8] [Mv 57 8,Ro 58 (.lenS (T 57)),Bc 59 .gtr 3 58 .i64 40])
 (.cond (T 59) (.seq (Rg [] [Ol 4 (.assign (.const (.slice none 0 0))),Ac 5 4])
 .ret)
 .skip))
 (.seq (Rg [0,1,8] [Mv 60 0,Ca 61 37 [T 60] (some (.val (.one .slice))),As 9 61])
 (.seq (Rg [1,8,9] [Mv 62 8,Ro 63 (.lenS (T 62)),Ro 64 (.mkSlice 4 [.int .i64 0,.int .i64 0,.int .i64 0,.int .i64 0] (T 63) (T 63)),As 10 64])
 (.seq (.seq (Rg [1,8,9,10] [Mv 65 8,Ro 66 (.lenS (T 65)),Ol 67 (.move (Ci 0))])
 (.block 0 (.loop 15 (some [1,9,10,65,66,67]) (some [1,9,10,65,66,67]))))
 (.seq (Rg [10] [Mv 105 10,As 4 105,Ac 5 0])
 .ret))))))))),
 [.tmp 4,.tmp 5],
 [(15,⟨some [1,9,10,65,66,67],some [1,9,10,65,66,67],.seq (Rg [1,9,10,65,66,67] [Bt 68 .lss 3 67 66])
 (.seq (.cond (T 68) .skip
 (.exit 0 (some [10])))
 (.seq (.block 1 (.seq (Rg [1,9,10,65,66,67] [Mv 69 67,Ix 70 2 65 67,Ld 71 70,Nw 12 2 z2,As 11 69,Sr 2 12 71])
 (.seq (Rg [1,9,10,11,12,65,66,67] [Mv 73 9,Ld 74 12,Ca 75 35 [T 73,T 74] (some (.tup [.agg s2,.one (.int .i64)])),Mv 72 75,Ex 76 72 0,Ex 77 72 1,Nw 13 2 z2,Sr 2 13 76,As 14 77])
 (.seq (.seq (Rg [1,9,10,11,12,13,14,65,66,67] [Mv 78 14,Bc 79 .neq 26 78 .i64 0])
 (.cond (T 79) (.seq (Rg [14] [Mv 80 14,Ol 4 (.assign (.const (.slice none 0 0))),As 5 80])
 .ret)
 .skip))
 (.seq (Rg [1,9,10,11,12,13,65,66,67] [Mv 82 1,Ld 83 12,Ca 84 35 [T 82,T 83] (some (.tup [.agg s2,.one (.int .i64)])),Mv 81 84,Ex 85 81 0,Ex 86 81 1,Nw 15 2 z2,Sr 2 15 85,As 14 86])
 (.seq (.seq (Rg [1,9,10,11,13,14,15,65,66,67] [Mv 87 14,Bc 88 .neq 26 87 .i64 0])
 (.cond (T 88) (.seq (Rg [14] [Mv 89 14,Ol 4 (.assign (.const (.slice none 0 0))),As 5 89])
 .ret)
 .skip))
 (.seq (.seq (Rg [1,9,10,11,13,15,65,66,67] [Ld 90 13,Ca 91 33 [T 90,.const (.int .i64 100)] vB,Ol 92 (.unOp .not 4 (T 91)),Mv 93 92,Hf 94 93 (.load 2 s2 (T 15)),⟨some 95,some (93,false),.call (.func 33) [T 94,.const (.int .i64 100)] vB⟩,Gf 96 93 (.unOp .not 4 (T 95)),Ol 97 (.pick (T 93) (.const (.bool true)) (T 96))])
 (.cond (T 97) (.seq (Rg [] [Ol 4 (.assign (.const (.slice none 0 0))),Ac 5 16])
 .ret)
 .skip))
 (Rg [1,9,10,11,13,15,65,66,67] [Mv 98 10,Mv 99 11,Ld 100 13,Ld 101 15,Ro 102 (.build [.int .i64 0,.int .i64 0,.int .i64 0,.int .i64 0] [(0,2,(T 100)),(2,2,(T 101))]),Ix 103 4 98 99,Sr 4 103 102]))))))))
 (Rg [1,9,10,65,66,67] [Bc 104 .add 3 67 .i64 1,Mv 67 104])))⟩)],
 []⟩
theorem r17_ok : resFun (progU ()) hint live 17 Try.f17 = some r17:=by kernel_rfl
def r18 : RFun :=
⟨.seq (Rg [0,1] [Ol 4 (.assign (.const (.slice none 0 0))),Ac 5 0])
 (.seq (.seq (Rg [0,1] [Mv 12 0,Ca 13 15 [T 12] vI,Bc 14 .neq 3 13 .i64 0])
 (.cond (T 14) (.seq (Rg [0] [Mv 15 0,Ca 16 15 [T 15] vI,Ol 4 (.assign (.const (.slice none 0 0))),As 5 16])
 .ret)
 .skip))
 (.seq (.seq (Rg [0,1] [Mv 17 1,Ca 18 15 [T 17] vI,Bc 19 .neq 3 18 .i64 0])
 (.cond (T 19) (.seq (Rg [1] [Mv 20 1,Ca 21 15 [T 20] vI,Ol 4 (.assign (.const (.slice none 0 0))),As 5 21])
 .ret)
 .skip))
 (.seq (.draw (some [0,1]) 15 [Dr (Mv 22 0) 0 [1,2,3,13,14],Dr (Ro 23 (.ixS 4 (T 22) (Ci 0))) 1 [2,3,13,14],Dr (Fa 24 2 23) 2 [3,13,14],Db (Ld 25 24) 3 24 [13,14],Dr (Mv 26 0) 4 [8,9,10,14],Dr (Mv 27 0) 5 [6,7,8,9,10,14],Dr (Ro 28 (.lenS (T 27))) 6 [7,8,9,10,14],Dr (Bc 29 .sub 3 28 .i64 1) 7 [8,9,10,14],Dr (Ix 30 4 26 29) 8 [9,10,14],Dr (Fa 31 2 30) 9 [10,14],Db (Ld 32 31) 10 31 [14],⟨Nw 6 2 z2,11,.new true,[13,14],false,true⟩,⟨Nw 7 2 z2,12,.new true,[13,14],false,true⟩,⟨Sr 2 6 25,13,.blk (T 6),[14],true,true⟩,⟨Sr 2 7 32,14,.blk (T 7),[],true,true⟩])
 (.seq (.seq (.draw (some [0,1,6,7]) 17 [Db (Ld 33 6) 0 6 [5,6,7,8,9,10,11,12,13,14,15,16],Dr (Mv 34 1) 1 [2,3,4,5,6,7,8,9,10,11,12,13,14,15,16],Dr (Ro 35 (.ixS 4 (T 34) (Ci 0))) 2 [3,4,5,6,7,8,9,10,11,12,13,14,15,16],Dr (Fa 36 0 35) 3 [4,5,6,7,8,9,10,11,12,13,14,15,16],Db (Ld 37 36) 4 36 [5,6,7,8,9,10,11,12,13,14,15,16],⟨Ca 38 27 [T 33,T 37] vB,5,.all,[6,7,8,9,10,11,12,13,14,15,16],false,false⟩,Dr (Mv 39 38) 6 [7,8,9,10,11,12,13,14,15,16],⟨Gf 40 39 (.move (T 1)),7,.none,[11,12,13,15,16],false,true⟩,⟨Gf 41 39 (.move (T 1)),8,.none,[9,10,11,12,13,15,16],false,true⟩,⟨Hf 42 39 (.lenS (T 41)),9,.none,[10,11,12,13,15,16],false,true⟩,⟨Gf 43 39 (.binOp .sub 3 (T 42) (Ci 1) 3),10,.none,[11,12,13,15,16],false,true⟩,⟨Hf 44 39 (.ixS 4 (T 40) (T 43)),11,.none,[12,13,15,16],false,true⟩,⟨Hf 45 39 (.fieldAddr 0 (T 44)),12,.none,[13,15,16],false,true⟩,⟨Hf 46 39 (.load 2 s2 (T 45)),13,.blk (T 45),[15,16],false,true⟩,⟨Hf 47 39 (.load 2 s2 (T 7)),14,.blk (T 7),[15,16],false,true⟩,⟨⟨some 48,some (39,false),.call (.func 27) [T 46,T 47] vB⟩,15,.all,[16],false,false⟩,Dr (Ol 49 (.pick (T 39) (.const (.bool true)) (T 48))) 16 []])
 (.cond (T 49) (.seq (Rg [] [Ol 4 (.assign (.const (.slice none 0 0))),Ac 5 6])
 .ret)
 .skip))
 (.seq (Rg [0,1,6,7] [Ol 8 (.assign (.const (.slice none 0 0)))])
 (.seq (.seq (Rg [0,1,6,7,8] [Ac 9 0])
 (.block 0 (.loop 10 (some [0,1,6,7,8,9]) (some [0,1,6,7,8,9]))))
 (.seq (.seq (Rg [0,1,6,7,8] [Ac 10 0])
 (.block 2 (.loop 14 (some [0,1,6,7,8,10]) (some [0,1,6,7,8,10]))))
 (.seq (.seq (Rg [8] [Mv 111 8,Ro 112 (.lenS (T 111)),Bc 113 .gtr 3 112 .i64 40])
 (.cond (T 113) (.seq (Rg [] [Ol 4 (.assign (.const (.slice none 0 0))),Ac 5 4])
 .ret)
 .skip))
 (.seq (.seq (Rg [8] [Ac 11 0])
 (.block 4 (.loop 21 none (some [8,11]))))
 (.seq (Rg [8] [Mv 136 8,As 4 136,Ac 5 0])
 .ret)))))))))),
 [.tmp 4,.tmp 5],
 [(10,⟨some [0,1,6,7,8,9],some [0,1,6,7,8,9],.seq (.seq (Rg [0,1,6,7,8,9] [Mv 50 9,Mv 51 0,Ro 52 (.lenS (T 51)),Bt 53 .lss 3 50 52])
 (.cond (T 53) .skip
 (.exit 0 (some [0,1,6,7,8]))))
 (.seq (.block 1 (.draw (some [0,1,6,7,8,9]) 16 [Dr (Mv 56 8) 0 [14,15],Dr (Mv 57 0) 1 [3,4,5,13,14,15],Dr (Mv 58 9) 2 [3,4,5,13,14,15],Dr (Ix 59 4 57 58) 3 [4,5,13,14,15],Dr (Fa 60 0 59) 4 [5,13,14,15],Db (Ld 61 60) 5 60 [13,14,15],Dr (Mv 62 1) 6 [12,13,14,15],Dr (Mv 63 0) 7 [9,10,11,12,13,14,15],Dr (Mv 64 9) 8 [9,10,11,12,13,14,15],Dr (Ix 65 4 63 64) 9 [10,11,12,13,14,15],Dr (Fa 66 2 65) 10 [11,12,13,14,15],Db (Ld 67 66) 11 66 [12,13,14,15],⟨Ca 68 36 [T 62,T 67] (some (.val (.agg s2))),12,.all,[13,14,15],false,false⟩,Dr (Ro 69 (.build [.int .i64 0,.int .i64 0,.int .i64 0,.int .i64 0] [(0,2,(T 61)),(2,2,(T 68))])) 13 [14,15],⟨Ca 70 40 [T 56,T 69] (some (.val (.one .slice))),14,.all,[15],false,false⟩,Dr (As 8 70) 15 []]))
 (Rg [0,1,6,7,8,9] [Mv 54 9,Bc 55 .add 3 54 .i64 1,As 9 55]))⟩),(14,⟨some [0,1,6,7,8,10],some [0,1,6,7,8,10],.seq (.seq (Rg [0,1,6,7,8,10] [Mv 71 10,Mv 72 1,Ro 73 (.lenS (T 72)),Bt 74 .lss 3 71 73])
 (.cond (T 74) .skip
 (.exit 2 (some [8]))))
 (.seq (.block 3 (.seq (.draw (some [0,1,6,7,8,10]) 18 [Dr (Mv 77 1) 0 [2,3,4,6,7,8,9,10,11,12,13,14,15,16,17],Dr (Mv 78 10) 1 [2,3,4,6,7,8,9,10,11,12,13,14,15,16,17],Dr (Ix 79 4 77 78) 2 [3,4,6,7,8,9,10,11,12,13,14,15,16,17],Dr (Fa 80 0 79) 3 [4,6,7,8,9,10,11,12,13,14,15,16,17],Db (Ld 81 80) 4 80 [6,7,8,9,10,11,12,13,14,15,16,17],Db (Ld 82 6) 5 6 [6,7,8,9,10,11,12,13,14,15,16,17],⟨Ca 83 27 [T 81,T 82] vB,6,.all,[7,8,9,10,11,12,13,14,15,16,17],false,false⟩,Dr (Ol 84 (.unOp .not 4 (T 83))) 7 [8,9,10,11,12,13,14,15,16,17],Dr (Mv 85 84) 8 [9,10,11,12,13,14,15,16,17],⟨Ht 86 85 (.load 2 s2 (T 7)),9,.blk (T 7),[15,16,17],false,true⟩,⟨Gt 87 85 (.move (T 1)),10,.none,[12,13,14,15,16,17],false,true⟩,⟨Gt 88 85 (.move (T 10)),11,.none,[12,13,14,15,16,17],false,true⟩,⟨Ht 89 85 (.ixS 4 (T 87) (T 88)),12,.none,[13,14,15,16,17],false,true⟩,⟨Ht 90 85 (.fieldAddr 0 (T 89)),13,.none,[14,15,16,17],false,true⟩,⟨Ht 91 85 (.load 2 s2 (T 90)),14,.blk (T 90),[15,16,17],false,true⟩,⟨⟨some 92,some (85,true),.call (.func 27) [T 86,T 91] vB⟩,15,.all,[16,17],false,false⟩,⟨Gt 93 85 (.unOp .not 4 (T 92)),16,.none,[17],false,true⟩,Dr (Ol 94 (.pick (T 85) (T 93) (.const (.bool false)))) 17 []])
 (.cond (T 94) (.draw (some [0,1,6,7,8,10]) 17 [Dr (Mv 95 8) 0 [15,16],Dr (Mv 96 0) 1 [2,8,14,15,16],Dr (Mv 98 1) 3 [5,6,7,8,14,15,16],Dr (Mv 99 10) 4 [5,6,7,8,14,15,16],Dr (Ix 100 4 98 99) 5 [6,7,8,14,15,16],Dr (Fa 101 0 100) 6 [7,8,14,15,16],Db (Ld 102 101) 7 101 [8,14,15,16],Dr (Mv 104 1) 9 [11,12,13,14,15,16],Dr (Mv 105 10) 10 [11,12,13,14,15,16],Dr (Ix 106 4 104 105) 11 [12,13,14,15,16],Dr (Fa 107 2 106) 12 [13,14,15,16],Db (Ld 108 107) 13 107 [14,15,16],⟨Ca 97 38 [T 96] (some (.val (.one .slice))),2,.all,[8,14,15,16],false,false⟩,⟨Ca 103 36 [T 97,T 102] (some (.val (.agg s2))),8,.all,[14,15,16],false,false⟩,Dr (Ro 109 (.build [.int .i64 0,.int .i64 0,.int .i64 0,.int .i64 0] [(0,2,(T 103)),(2,2,(T 108))])) 14 [15,16],⟨Ca 110 40 [T 95,T 109] (some (.val (.one .slice))),15,.all,[16],false,false⟩,Dr (As 8 110) 16 []])
 .skip)))
 (Rg [0,1,6,7,8,10] [Mv 75 10,Bc 76 .add 3 75 .i64 1,As 10 76]))⟩),(21,⟨none,some [8,11],.seq (.seq (Rg [8,11] [Mv 114 11,Mv 115 8,Ro 116 (.lenS (T 115)),Bt 117 .lss 3 114 116])
 (.cond (T 117) .skip
 (.exit 4 (some [8]))))
 (.seq (.block 5 (.seq (Rg [8,11] [Mv 120 8,Mv 121 11,Ix 122 4 120 121,Fa 123 0 122,Ld 124 123,Ca 125 29 [T 124,.const (.int .i64 100)] vB,Ol 126 (.unOp .not 4 (T 125)),Mv 127 126,Gf 128 127 (.move (T 8)),Gf 129 127 (.move (T 11)),Hf 130 127 (.ixS 4 (T 128) (T 129)),Hf 131 127 (.fieldAddr 2 (T 130)),Hf 132 127 (.load 2 s2 (T 131)),⟨some 133,some (127,false),.call (.func 29) [T 132,.const (.int .i64 100)] vB⟩,Gf 134 127 (.unOp .not 4 (T 133)),Ol 135 (.pick (T 127) (.const (.bool true)) (T 134))])
 (.cond (T 135) (.seq (Rg [] [Ol 4 (.assign (.const (.slice none 0 0))),Ac 5 16])
 .ret)
 .skip)))
 (Rg [8,11] [Mv 118 11,Bc 119 .add 3 118 .i64 1,As 11 119]))⟩)],
 []⟩
theorem r18_ok : resFun (progU ()) hint live 18 Try.f18 = some r18:=by kernel_rfl
def r19 : RFun :=
⟨.seq (Rg [0] [Ro 1 (.box 5 (T 0)),Nw 2 2 z2,Ac 3 0])
 (.seq (Rg [1,2] [Ac 4 0])
 (.seq (.seq (Rg [1,2,4] [Ro 9 (.load 5 [.int .i64,.int .i64,.int .i64,.int .i64,.int .i64] (T 1)),Ol 10 (.move (Ci 0))])
 (.block 0 (.loop 3 none (some [1,2,4,9,10]))))
 (.seq (.seq (Rg [1,2,4] [Mv 24 4,Bc 25 .gtr 3 24 .i64 256])
 (.cond (T 25) (.seq (Rg [2] [Ro 26 (.build z2 []),Sr 2 2 26,Ac 3 2])
 .ret)
 .skip))
 (.seq (Rg [1,2,4] [Mv 27 4,Ro 28 (.ixA 5 1 (T 1) (Ci 0)),L1 29 28,Bt 30 .sub 3 27 29,As 7 30])
 (.seq (.seq (Rg [1,2,7] [Mv 31 7,Bc 32 .eql 3 31 .i64 0])
 (.cond (T 32) (.seq (Rg [2] [Ro 33 (.build z2 []),Sr 2 2 33,Ac 3 18])
 .ret)
 .skip))
 (.seq (Rg [1,2,7] [Ro 34 (.ixA 5 1 (T 1) (Ci 1)),L1 35 34,Ro 36 (.ixA 5 1 (T 1) (Ci 4)),L1 37 36,Bt 38 .add 3 35 37,Ol 39 (.binOp .mul 3 (Ci 9) (T 38) 3),Ro 40 (.ixA 5 1 (T 1) (Ci 2)),L1 41 40,Bt 42 .add 3 39 41,Ro 43 (.ixA 5 1 (T 1) (Ci 3)),L1 44 43,Bt 45 .add 3 42 44,As 8 45])
 (.seq (Rg [2,7,8] [Mv 46 8,Mv 47 7,Ca 48 41 [T 46,T 47] (some (.tup [.agg s2,.one (.int .i64)])),Ex 49 48 0,Ex 50 48 1,Sr 2 2 49,As 3 50])
 .ret))))))),
 [.agg 2 2 [.int .i64,.int .i64],.tmp 3],
 [(3,⟨none,some [1,2,4,9,10],.seq (Rg [1,2,4,9,10] [Bc 11 .lss 3 10 .i64 5])
 (.seq (.cond (T 11) .skip
 (.exit 0 (some [1,2,4])))
 (.seq (.block 1 (.seq (Rg [1,2,4,9,10] [Ol 12 (.index 39 (T 9) (T 10)),As 6 12])
 (.seq (.seq (Rg [1,2,4,6,9,10] [Mv 13 6,Bc 14 .lss 3 13 .i64 0,Mv 15 14,Gf 16 15 (.move (T 6)),Gf 17 15 (.binOp .gtr 3 (T 16) (Ci 256) 3),Ol 18 (.pick (T 15) (.const (.bool true)) (T 17))])
 (.cond (T 18) (.seq (Rg [2] [Ro 19 (.build z2 []),Sr 2 2 19,Ac 3 2])
 .ret)
 .skip))
 (Rg [1,2,4,6,9,10] [Mv 20 4,Mv 21 6,Bt 22 .add 3 20 21,As 4 22]))))
 (Rg [1,2,4,9,10] [Bc 23 .add 3 10 .i64 1,Mv 10 23])))⟩)],
 []⟩
theorem r19_ok : resFun (progU ()) hint live 19 Try.f19 = some r19:=by kernel_rfl
def r20 : RFun :=
⟨.seq (Rg [0] [Ro 1 (.box 5 (T 0)),Nw 2 2 z2,Ac 3 0])
 (.seq (Rg [1,2] [Ac 4 0,Ac 5 0,Ac 6 0])
 (.seq (.seq (Rg [1,2,5,6] [Ac 7 0])
 (.block 0 (.loop 3 none (some [1,2,5,6,7]))))
 (.seq (Rg [1,2,5,6] [Ro 35 (.ixA 5 1 (T 1) (Ci 1)),L1 36 35,Ol 37 (.binOp .mul 3 (Ci 9) (T 36) 3),Ro 38 (.ixA 5 1 (T 1) (Ci 2)),L1 39 38,Bt 40 .add 3 37 39,Ro 41 (.ixA 5 1 (T 1) (Ci 3)),L1 42 41,Bt 43 .add 3 40 42,Ro 44 (.ixA 5 1 (T 1) (Ci 4)),L1 45 44,Ol 46 (.binOp .mul 3 (Ci 9) (T 45) 3),Bt 47 .add 3 43 46,As 4 47])
 (.seq (.seq (Rg [2,4,5,6] [Mv 48 6,Bc 49 .gtr 3 48 .i64 256])
 (.cond (T 49) (.seq (Rg [2] [Ro 50 (.build z2 []),Sr 2 2 50,Ac 3 2])
 .ret)
 .skip))
 (.seq (.seq (Rg [2,4,5] [Mv 51 5,Bc 52 .eql 3 51 .i64 0])
 (.cond (T 52) (.seq (Rg [2] [Ro 53 (.build z2 []),Sr 2 2 53,Ac 3 18])
 .ret)
 .skip))
 (.seq (Rg [2,4,5] [Mv 54 4,Mv 55 5,Ca 56 31 [T 54,T 55] (some (.tup [.agg s2,.one (.int .i64)])),Ex 57 56 0,Ex 58 56 1,Sr 2 2 57,As 3 58])
 .ret)))))),
 [.agg 2 2 [.int .i64,.int .i64],.tmp 3],
 [(3,⟨none,some [1,2,5,6,7],.seq (.seq (Rg [1,2,5,6,7] [Mv 8 7,Bc 9 .lss 3 8 .i64 5])
 (.cond (T 9) .skip
 (.exit 0 (some [1,2,5,6]))))
 (.seq (.block 1 (.seq (.seq (Rg [1,2,5,6,7] [Mv 12 7,Ro 13 (.ixA 5 1 (T 1) (T 12)),L1 14 13,Bc 15 .lss 3 14 .i64 0,Mv 16 15,Gf 17 16 (.move (T 7)),Hf 18 16 (.ixA 5 1 (T 1) (T 17)),Hf 19 16 (.load1 (.int .i64) (T 18)),Gf 20 16 (.binOp .gtr 3 (T 19) (Ci 256) 3),Ol 21 (.pick (T 16) (.const (.bool true)) (T 20))])
 (.cond (T 21) (.seq (Rg [2] [Ro 22 (.build z2 []),Sr 2 2 22,Ac 3 2])
 .ret)
 .skip))
 (.seq (Rg [1,2,5,6,7] [Mv 23 6,Mv 24 7,Ro 25 (.ixA 5 1 (T 1) (T 24)),L1 26 25,Bt 27 .add 3 23 26,As 6 27])
 (.seq (Rg [1,2,5,6,7] [Mv 28 7,Bc 29 .gtr 3 28 .i64 0])
 (.cond (T 29) (Rg [1,2,5,6,7] [Mv 30 5,Mv 31 7,Ro 32 (.ixA 5 1 (T 1) (T 31)),L1 33 32,Bt 34 .add 3 30 33,As 5 34])
 .skip)))))
 (Rg [1,2,5,6,7] [Mv 10 7,Bc 11 .add 3 10 .i64 1,As 7 11]))⟩)],
 []⟩
theorem r20_ok : resFun (progU ()) hint live 20 Try.f20 = some r20:=by kernel_rfl
def r21 : RFun :=
⟨.seq (Rg [0,1,2] [Bo 4 2 1,Bo 5 2 2,Nw 6 2 z2,Ac 7 0])
 (.seq (.seq (Rg [0,4,5,6] [Mv 12 0,Ca 13 14 [T 12] vI,As 8 13])
 (.seq (Rg [0,4,5,6,8] [Mv 14 8,Bc 15 .neq 26 14 .i64 0])
 (.cond (T 15) (.seq (Rg [6,8] [Ro 16 (.build z2 []),Mv 17 8,Sr 2 6 16,As 7 17])
 .ret)
 .skip)))
 (.seq (.seq (Rg [0,4,5,6] [Ld 18 4,Ro 19 (.buildSlice 2 1 z2 [(0,2,(T 18))]),Ca 20 42 [T 19] vI,Bc 21 .neq 26 20 .i64 0])
 (.cond (T 21) (.seq (Rg [6] [Ro 22 (.build z2 []),Sr 2 6 22,Ac 7 2])
 .ret)
 .skip))
 (.seq (.seq (Rg [0,4,5,6] [Ld 23 5,Ca 24 32 [T 23] vI,Bc 25 .neq 26 24 .i64 0,Mv 26 25,Hf 27 26 (.fieldAddr 0 (T 5)),Hf 28 26 (.load1 (.int .i64) (T 27)),Gf 29 26 (.binOp .leq 2 (T 28) (Ci 0) 2),Ol 30 (.pick (T 26) (.const (.bool true)) (T 29))])
 (.cond (T 30) (.seq (Rg [6] [Ro 31 (.build z2 []),Sr 2 6 31,Ac 7 8])
 .ret)
 .skip))
 (.seq (.seq (Rg [0,4,5,6] [Fa 32 1 4,L1 33 32,Bc 34 .eql 3 33 .i64 0])
 (.cond (T 34) (.seq (Rg [6] [Ro 35 (.build z2 []),Sr 2 6 35,Ac 7 18])
 .ret)
 .skip))
 (.seq (Rg [0,4,5,6] [Fa 37 0 4,L1 38 37,Fa 39 1 4,L1 40 39,Ca 41 41 [T 38,T 40] (some (.tup [.agg s2,.one (.int .i64)])),Mv 36 41,Ex 42 36 0,Ex 43 36 1,Nw 9 2 z2,Sr 2 9 42,As 10 43])
 (.seq (.seq (Rg [0,5,6,9,10] [Mv 44 10,Bc 45 .neq 26 44 .i64 0])
 (.cond (T 45) (.seq (Rg [6,10] [Ro 46 (.build z2 []),Mv 47 10,Sr 2 6 46,As 7 47])
 .ret)
 .skip))
 (.seq (Rg [0,5,6,9] [Ld 49 9,Ld 50 5,Ca 51 43 [T 49,T 50] (some (.tup [.agg s2,.one (.int .i64)])),Mv 48 51,Ex 52 48 0,Ex 53 48 1,Nw 11 2 z2,Sr 2 11 52,As 10 53])
 (.seq (.seq (Rg [0,6,10,11] [Mv 54 10,Bc 55 .neq 26 54 .i64 0])
 (.cond (T 55) (.seq (Rg [6,10] [Ro 56 (.build z2 []),Mv 57 10,Sr 2 6 56,As 7 57])
 .ret)
 .skip))
 (.seq (Rg [0,6,11] [Mv 58 0,Ld 59 11,Ca 60 10 [T 58,T 59] (some (.tup [.agg s2,.one (.int .i64)])),Ex 61 60 0,Ex 62 60 1,Sr 2 6 61,As 7 62])
 .ret))))))))),
 [.agg 6 2 [.int .i64,.int .i64],.tmp 7],
 [],
 []⟩
theorem r21_ok : resFun (progU ()) hint live 21 Try.f21 = some r21:=by kernel_rfl
def r22 : RFun :=
⟨.seq (Rg [0,1,2] [Bo 4 2 1,Bo 5 2 2,Nw 6 2 z2,Ac 7 0])
 (.seq (.seq (Rg [0,4,5,6] [Mv 11 0,Ca 12 15 [T 11] vI,Bc 13 .neq 3 12 .i64 0])
 (.cond (T 13) (.seq (Rg [0,6] [Ro 14 (.build z2 []),Mv 15 0,Ca 16 15 [T 15] vI,Sr 2 6 14,As 7 16])
 .ret)
 .skip))
 (.seq (.seq (Rg [0,4,5,6] [Ld 17 4,Ro 18 (.buildSlice 2 1 z2 [(0,2,(T 17))]),Ca 19 44 [T 18] vI,Bc 20 .neq 3 19 .i64 0])
 (.cond (T 20) (.seq (Rg [6] [Ro 21 (.build z2 []),Sr 2 6 21,Ac 7 2])
 .ret)
 .skip))
 (.seq (.seq (Rg [0,4,5,6] [Ld 22 5,Ca 23 28 [T 22] vI,Bc 24 .neq 3 23 .i64 0,Mv 25 24,Hf 26 25 (.fieldAddr 0 (T 5)),Hf 27 25 (.load1 (.int .i64) (T 26)),Gf 28 25 (.binOp .lss 2 (T 27) (Ci 1) 2),Ol 29 (.pick (T 25) (.const (.bool true)) (T 28))])
 (.cond (T 29) (.seq (Rg [6] [Ro 30 (.build z2 []),Sr 2 6 30,Ac 7 8])
 .ret)
 .skip))
 (.seq (.seq (Rg [0,4,5,6] [Fa 31 1 4,L1 32 31,Bc 33 .eql 3 32 .i64 0])
 (.cond (T 33) (.seq (Rg [6] [Ro 34 (.build z2 []),Sr 2 6 34,Ac 7 18])
 .ret)
 .skip))
 (.seq (Rg [0,4,5,6] [Fa 36 0 4,L1 37 36,Fa 38 1 4,L1 39 38,Ca 40 31 [T 37,T 39] (some (.tup [.agg s2,.one (.int .i64)])),Mv 35 40,Ex 41 35 0,Ex 42 35 1,Nw 8 2 z2,Sr 2 8 41,As 9 42])
 (.seq (.seq (Rg [0,5,6,8,9] [Mv 43 9,Bc 44 .neq 3 43 .i64 0])
 (.cond (T 44) (.seq (Rg [6,9] [Ro 45 (.build z2 []),Mv 46 9,Sr 2 6 45,As 7 46])
 .ret)
 .skip))
 (.seq (Rg [0,5,6,8] [Ld 48 8,Ld 49 5,Ca 50 45 [T 48,T 49] (some (.tup [.agg s2,.one (.int .i64)])),Mv 47 50,Ex 51 47 0,Ex 52 47 1,Nw 10 2 z2,Sr 2 10 51,As 9 52])
 (.seq (.seq (Rg [0,6,9,10] [Mv 53 9,Bc 54 .neq 3 53 .i64 0])
 (.cond (T 54) (.seq (Rg [6,9] [Ro 55 (.build z2 []),Mv 56 9,Sr 2 6 55,As 7 56])
 .ret)
 .skip))
 (.seq (Rg [0,6,10] [Mv 57 0,Ld 58 10,Ca 59 11 [T 57,T 58] (some (.tup [.agg s2,.one (.int .i64)])),Ex 60 59 0,Ex 61 59 1,Sr 2 6 60,As 7 61])
 .ret))))))))),
 [.agg 6 2 [.int .i64,.int .i64],.tmp 7],
 [],
 []⟩
theorem r22_ok : resFun (progU ()) hint live 22 Try.f22 = some r22:=by kernel_rfl
def r27 : RFun :=
⟨.seq (Rg [0,1] [Bo 2 2 0,Bo 3 2 1,Ol 4 (.assign (.const (.bool false)))])
 (.seq (Rg [2,3] [Ld 8 2,Ld 9 3,Ca 10 46 [T 8,T 9] (some (.tup [.one (.int .i64),.one (.int .i64)])),Mv 7 10,Ex 11 7 0,Ex 12 7 1,As 5 11,As 6 12])
 (.seq (Rg [5] [Mv 13 5,Bc 14 .lss 3 13 .i64 0,As 4 14])
 .ret)),
 [.tmp 4],
 [],
 []⟩
theorem r27_ok : resFun (progU ()) hint live 27 Try.f27 = some r27:=by kernel_rfl
def r28 : RFun :=
⟨.seq (Rg [0] [Bo 1 2 0,Ac 2 0])
 (.seq (.seq (.draw (some [1]) 28 [Dr (Fa 3 1 1) 0 [1,2,3,4,5,6,7,8,9,10,11,12,13,14,15,16,17,18,19,20,21,22,23,24,25,26,27],Db (L1 4 3) 1 3 [2,3,4,5,6,7,8,9,10,11,12,13,14,15,16,17,18,19,20,21,22,23,24,25,26,27],Dr (Bc 5 .lss 2 4 .i64 1) 2 [3,4,5,6,7,8,9,10,11,12,13,14,15,16,17,18,19,20,21,22,23,24,25,26,27],Dr (Mv 6 5) 3 [4,5,6,7,8,9,10,11,12,13,14,15,16,17,18,19,20,21,22,23,24,25,26,27],⟨Hf 7 6 (.fieldAddr 1 (T 1)),4,.none,[5,6,7,8,9,10,11,12,13,14,15,16,17,18,19,20,21,22,23,24,25,26,27],false,true⟩,⟨Hf 8 6 (.load1 (.int .i64) (T 7)),5,.blk (T 7),[6,7,8,9,10,11,12,13,14,15,16,17,18,19,20,21,22,23,24,25,26,27],false,true⟩,⟨Gf 9 6 (.binOp .gtr 2 (T 8) (Ci 1000000000000000000) 2),6,.none,[7,8,9,10,11,12,13,14,15,16,17,18,19,20,21,22,23,24,25,26,27],false,true⟩,Dr (Ol 10 (.pick (T 6) (.const (.bool true)) (T 9))) 7 [8,9,10,11,12,13,14,15,16,17,18,19,20,21,22,23,24,25,26,27],Dr (Mv 11 10) 8 [9,10,11,12,13,14,15,16,17,18,19,20,21,22,23,24,25,26,27],⟨Hf 12 11 (.fieldAddr 0 (T 1)),9,.none,[10,11,12,13,14,15,16,17,18,19,20,21,22,23,24,25,26,27],false,true⟩,⟨Hf 13 11 (.load1 (.int .i64) (T 12)),10,.blk (T 12),[11,12,13,14,15,16,17,18,19,20,21,22,23,24,25,26,27],false,true⟩,⟨Gf 14 11 (.binOp .lss 2 (T 13) (.const (.int .i64 (-1000000000000000000))) 2),11,.none,[12,13,14,15,16,17,18,19,20,21,22,23,24,25,26,27],false,true⟩,Dr (Ol 15 (.pick (T 11) (.const (.bool true)) (T 14))) 12 [13,14,15,16,17,18,19,20,21,22,23,24,25,26,27],Dr (Mv 16 15) 13 [14,15,16,17,18,19,20,21,22,23,24,25,26,27],⟨Hf 17 16 (.fieldAddr 0 (T 1)),14,.none,[15,16,17,18,19,20,21,22,23,24,25,26,27],false,true⟩,⟨Hf 18 16 (.load1 (.int .i64) (T 17)),15,.blk (T 17),[16,17,18,19,20,21,22,23,24,25,26,27],false,true⟩,⟨Gf 19 16 (.binOp .gtr 2 (T 18) (Ci 1000000000000000000) 2),16,.none,[17,18,19,20,21,22,23,24,25,26,27],false,true⟩,Dr (Ol 20 (.pick (T 16) (.const (.bool true)) (T 19))) 17 [18,19,20,21,22,23,24,25,26,27],Dr (Mv 21 20) 18 [19,20,21,22,23,24,25,26,27],⟨Hf 22 21 (.fieldAddr 0 (T 1)),19,.none,[20,21,25,26,27],false,true⟩,⟨Hf 23 21 (.load1 (.int .i64) (T 22)),20,.blk (T 22),[21,25,26,27],false,true⟩,⟨Hf 25 21 (.fieldAddr 1 (T 1)),22,.none,[23,24,25,26,27],false,true⟩,⟨Hf 26 21 (.load1 (.int .i64) (T 25)),23,.blk (T 25),[24,25,26,27],false,true⟩,⟨Hf 27 21 (.convI .u64 (T 26)),24,.cvt (T 26),[25,26,27],false,true⟩,⟨⟨some 24,some (21,false),.call (.func 48) [T 23] (some (.val (.one (.int .u64))))⟩,21,.all,[25,26,27],false,false⟩,⟨⟨some 28,some (21,false),.call (.func 47) [T 24,T 27] (some (.val (.one (.int .u64))))⟩,25,.all,[26,27],false,false⟩,⟨Gf 29 21 (.binOp .neq 80 (T 28) (.const (.int .u64 1)) 80),26,.none,[27],false,true⟩,Dr (Ol 30 (.pick (T 21) (.const (.bool true)) (T 29))) 27 []])
 (.cond (T 30) (.seq (Rg [] [Ac 2 8])
 .ret)
 .skip))
 (.seq (Rg [] [Ac 2 0])
 .ret)),
 [.tmp 2],
 [],
 []⟩
theorem r28_ok : resFun (progU ()) hint live 28 Try.f28 = some r28:=by kernel_rfl
