import Derived.Test.YtnokkniofajnhaaSeat0
import Derived.Test.YtnokkniofajnhaaSymS
set_option linter.unusedSimpArgs false
set_option linter.unusedVariables false
namespace Go.Proofs.Ytnokkniofajnhaa
open Go.Sim
set_option maxRecDepth 100000
def r6 : RFun :=
⟨.seq (Rg [0,1,2] [Bo 4 2 1,Bo 5 2 2,Ol 6 (.assign (.const (.bool false)))])
 (.seq (Rg [0,4,5] [Ca 21 25 [] vB,As 7 21])
 (.seq (.seq (Rg [0,4,5,7] [Mv 22 0,Ca 23 26 [T 22] vB,Ol 24 (.unOp .not 4 (T 23)),Mv 25 24,Gf 26 25 (.move (T 7)),Gf 27 25 (.unOp .not 4 (T 26)),Ol 28 (.pick (T 25) (.const (.bool true)) (T 27))])
 (.cond (T 28) (.seq (Rg [7] [Mv 29 7,As 6 29])
 .ret)
 .skip))
 (.seq (.seq (Rg [0,4,5,7] [Ac 8 0])
 (.block 0 (.loop 5 (some [0,4,5,7,8]) (some [0,4,5,7,8]))))
 (.seq (Rg [0,4,5,7] [Mv 58 0,Ld 59 4,Ca 60 10 [T 58,T 59] (some (.tup [.agg s2,.one (.int .i64)])),Mv 57 60,Ex 61 57 0,Ex 62 57 1,Nw 11 2 z2,Sr 2 11 61,As 12 62])
 (.seq (Rg [0,4,5,7,11,12] [Mv 64 0,Ld 65 5,Ca 66 10 [T 64,T 65] (some (.tup [.agg s2,.one (.int .i64)])),Mv 63 66,Ex 67 63 0,Ex 68 63 1,Nw 13 2 z2,Sr 2 13 67,As 14 68])
 (.seq (.seq (Rg [0,4,5,7,11,12,13,14] [Mv 69 12,Bc 70 .neq 26 69 .i64 0])
 (.cond (T 70) (.seq (Rg [7] [Mv 71 7,As 6 71])
 .ret)
 .skip))
 (.seq (.seq (.draw (some [0,4,5,7,11,13,14]) 20 [Dr (Mv 72 14) 0 [1,2,3,4,5,6,7,8,9,10,11,12,13,14,15,16,17,18,19],Dr (Bc 73 .eql 26 72 .i64 0) 1 [2,3,4,5,6,7,8,9,10,11,12,13,14,15,16,17,18,19],Dr (Mv 74 73) 2 [3,4,5,6,7,8,9,10,11,12,13,14,15,16,17,18,19],⟨Ht 75 74 (.load 2 s2 (T 4)),3,.blk (T 4),[5,8,9,10,11,12,13,14,15,16,17,18,19],false,true⟩,⟨Ht 76 74 (.load 2 s2 (T 5)),4,.blk (T 5),[5,8,9,10,11,12,13,14,15,16,17,18,19],false,true⟩,⟨Ht 78 74 (.load 2 s2 (T 11)),6,.blk (T 11),[8,9,10,11,12,13,14,15,16,17,18,19],false,true⟩,⟨Ht 79 74 (.load 2 s2 (T 13)),7,.blk (T 13),[8,9,10,11,12,13,14,15,16,17,18,19],false,true⟩,⟨⟨some 77,some (74,true),.call (.func 27) [T 75,T 76] vB⟩,5,.all,[8,9,10,11,12,13,14,15,16,17,18,19],false,false⟩,⟨⟨some 80,some (74,true),.call (.func 27) [T 78,T 79] vB⟩,8,.all,[9,10,11,12,13,14,15,16,17,18,19],false,false⟩,⟨Gt 81 74 (.binOp .neq 4 (T 77) (T 80) 4),9,.none,[10,11,12,13,14,15,16,17,18,19],false,true⟩,⟨Gt 82 74 (.move (T 81)),10,.none,[11,12,13,14,15,16,17,18,19],false,true⟩,⟨Hf 83 82 (.load 2 s2 (T 4)),11,.blk (T 4),[13,17,18,19],false,true⟩,⟨Hf 84 82 (.load 2 s2 (T 5)),12,.blk (T 5),[13,17,18,19],false,true⟩,⟨Gf 85 82 (.binOp .eql 24 (T 83) (T 84) 24),13,.none,[17,18,19],false,true⟩,⟨Hf 86 82 (.load 2 s2 (T 11)),14,.blk (T 11),[16,17,18,19],false,true⟩,⟨Hf 87 82 (.load 2 s2 (T 13)),15,.blk (T 13),[16,17,18,19],false,true⟩,⟨Gf 88 82 (.binOp .eql 24 (T 86) (T 87) 24),16,.none,[17,18,19],false,true⟩,⟨Gf 89 82 (.binOp .neq 4 (T 85) (T 88) 4),17,.none,[18,19],false,true⟩,⟨Gt 90 74 (.pick (T 82) (.const (.bool true)) (T 89)),18,.none,[19],false,true⟩,Dr (Ol 91 (.pick (T 74) (T 90) (.const (.bool false)))) 19 []])
 (.cond (T 91) (.seq (Rg [] [Ol 6 (.assign (.const (.bool false)))])
 .ret)
 .skip))
 (.seq (Rg [0,4,7,11] [Mv 93 0,Ca 94 12 [T 93] (some (.tup [.one .slice,.one (.int .i64)])),Mv 92 94,Ex 95 92 0,Ex 96 92 1,As 15 95,As 16 96])
 (.seq (Rg [0,4,7,11,15,16] [Mv 98 15,Ca 99 12 [T 98] (some (.tup [.one .slice,.one (.int .i64)])),Mv 97 99,Ex 100 97 0,Ex 101 97 1,As 17 100,As 18 101])
 (.seq (.seq (Rg [0,4,7,11,15,16,17,18] [Mv 102 16,Bc 103 .neq 26 102 .i64 0,Mv 104 103,Gf 105 104 (.move (T 18)),Gf 106 104 (.binOp .neq 26 (T 105) (Ci 0) 26),Ol 107 (.pick (T 104) (.const (.bool true)) (T 106)),Mv 108 107,Gf 109 108 (.move (T 17)),Gf 110 108 (.move (T 0)),⟨some 111,some (108,false),.call (.func 16) [T 109,T 110] vB⟩,Gf 112 108 (.unOp .not 4 (T 111)),Ol 113 (.pick (T 108) (.const (.bool true)) (T 112)),Mv 114 113,Hf 115 114 (.load 2 s2 (T 11)),⟨some 116,some (114,false),.call (.func 28) [T 115] vI⟩,Gf 117 114 (.binOp .neq 3 (T 116) (Ci 0) 3),Ol 118 (.pick (T 114) (.const (.bool true)) (T 117))])
 (.cond (T 118) (.seq (Rg [] [Ol 6 (.assign (.const (.bool false)))])
 .ret)
 .skip))
 (.seq (Rg [4,7,11,15] [Mv 120 15,Ld 121 11,Ca 122 10 [T 120,T 121] (some (.tup [.agg s2,.one (.int .i64)])),Mv 119 122,Ex 123 119 0,Ex 124 119 1,Nw 19 2 z2,Sr 2 19 123,As 20 124])
 (.seq (Rg [4,7,11,19,20] [Mv 125 7,Mv 126 125,Gt 127 126 (.move (T 20)),Gt 128 126 (.binOp .eql 26 (T 127) (Ci 0) 26),Gt 129 126 (.move (T 128)),Ht 130 129 (.load 2 s2 (T 19)),Ht 131 129 (.load 2 s2 (T 4)),Gt 132 129 (.binOp .eql 24 (T 130) (T 131) 24),Gt 133 126 (.pick (T 129) (T 132) (.const (.bool false))),Gt 134 126 (.move (T 133)),Gf 135 134 (.move (T 20)),Gf 136 134 (.binOp .eql 26 (T 135) (Ci 16) 26),Gf 137 134 (.move (T 136)),Ht 138 137 (.load 2 s2 (T 11)),⟨some 139,some (137,true),.call (.func 29) [T 138,.const (.int .i64 10000)] vB⟩,Gt 140 137 (.unOp .not 4 (T 139)),Gf 141 134 (.pick (T 137) (T 140) (.const (.bool false))),Gt 142 126 (.pick (T 134) (.const (.bool true)) (T 141)),Ol 143 (.pick (T 126) (T 142) (.const (.bool false))),As 6 143])
 .ret)))))))))))),
 [.tmp 6],
 [(5,⟨some [0,4,5,7,8],some [0,4,5,7,8],.seq (.seq (Rg [0,4,5,7,8] [Mv 30 8,Mv 31 0,Ro 32 (.lenS (T 31)),Bt 33 .lss 3 30 32])
 (.cond (T 33) .skip
 (.exit 0 (some [0,4,5,7]))))
 (.seq (.block 1 (.seq (Rg [0,4,5,7,8] [Mv 37 0,Mv 38 0,Mv 39 8,Ix 40 4 38 39,Fa 41 0 40,Ld 42 41,Ca 43 10 [T 37,T 42] (some (.tup [.agg s2,.one (.int .i64)])),Mv 36 43,Ex 44 36 0,Ex 45 36 1,Nw 9 2 z2,Sr 2 9 44,As 10 45])
 (.seq (.draw (some [0,4,5,7,8,9,10]) 11 [Dr (Mv 46 10) 0 [1,2,3,4,5,6,7,8,9,10],Dr (Bc 47 .neq 26 46 .i64 0) 1 [2,3,4,5,6,7,8,9,10],Dr (Mv 48 47) 2 [3,4,5,6,7,8,9,10],⟨Hf 49 48 (.load 2 s2 (T 9)),3,.blk (T 9),[9,10],false,true⟩,⟨Gf 50 48 (.move (T 0)),4,.none,[6,7,8,9,10],false,true⟩,⟨Gf 51 48 (.move (T 8)),5,.none,[6,7,8,9,10],false,true⟩,⟨Hf 52 48 (.ixS 4 (T 50) (T 51)),6,.none,[7,8,9,10],false,true⟩,⟨Hf 53 48 (.fieldAddr 2 (T 52)),7,.none,[8,9,10],false,true⟩,⟨Hf 54 48 (.load 2 s2 (T 53)),8,.blk (T 53),[9,10],false,true⟩,⟨Gf 55 48 (.binOp .neq 24 (T 49) (T 54) 24),9,.none,[10],false,true⟩,Dr (Ol 56 (.pick (T 48) (.const (.bool true)) (T 55))) 10 []])
 (.cond (T 56) (.seq (Rg [] [Ol 6 (.assign (.const (.bool false)))])
 .ret)
 .skip))))
 (Rg [0,4,5,7,8] [Mv 34 8,Bc 35 .add 3 34 .i64 1,As 8 35]))⟩)],
 []⟩
def r7 : RFun :=
⟨.seq (Rg [0,1,2] [Bo 5 2 2,Ol 6 (.assign (.const (.bool false)))])
 (.seq (Rg [0,1,5] [Ca 22 25 [] vB,As 7 22])
 (.seq (.seq (Rg [0,1,5,7] [Mv 23 0,Ca 24 26 [T 23] vB,Ol 25 (.unOp .not 4 (T 24)),Mv 26 25,Gf 27 26 (.move (T 1)),⟨some 28,some (26,false),.call (.func 26) [T 27] vB⟩,Gf 29 26 (.unOp .not 4 (T 28)),Ol 30 (.pick (T 26) (.const (.bool true)) (T 29)),Mv 31 30,Gf 32 31 (.move (T 7)),Gf 33 31 (.unOp .not 4 (T 32)),Ol 34 (.pick (T 31) (.const (.bool true)) (T 33))])
 (.cond (T 34) (.seq (Rg [7] [Mv 35 7,As 6 35])
 .ret)
 .skip))
 (.seq (Rg [0,1,5,7] [Mv 37 0,Ld 38 5,Ca 39 10 [T 37,T 38] (some (.tup [.agg s2,.one (.int .i64)])),Mv 36 39,Ex 40 36 0,Ex 41 36 1,Nw 8 2 z2,Sr 2 8 40,As 9 41])
 (.seq (Rg [0,1,5,7,8,9] [Mv 43 1,Ld 44 8,Ca 45 10 [T 43,T 44] (some (.tup [.agg s2,.one (.int .i64)])),Mv 42 45,Ex 46 42 0,Ex 47 42 1,Nw 10 2 z2,Sr 2 10 46,As 11 47])
 (.seq (Rg [0,1,5,7,9,10,11] [Mv 49 0,Mv 50 1,Ca 51 17 [T 49,T 50] (some (.tup [.one .slice,.one (.int .i64)])),Mv 48 51,Ex 52 48 0,Ex 53 48 1,As 12 52,As 13 53])
 (.seq (.seq (Rg [0,5,7,9,10,11,12,13] [Mv 54 13,Bc 55 .eql 26 54 .i64 0,Mv 56 55,Gt 57 56 (.move (T 9)),Gt 58 56 (.binOp .eql 26 (T 57) (Ci 0) 26),Ol 59 (.pick (T 56) (T 58) (.const (.bool false))),Mv 60 59,Gt 61 60 (.move (T 11)),Gt 62 60 (.binOp .eql 26 (T 61) (Ci 0) 26),Ol 63 (.pick (T 60) (T 62) (.const (.bool false)))])
 (.cond (T 63) (.seq (Rg [0,5,7,9,10,12] [Mv 65 12,Ld 66 5,Ca 67 10 [T 65,T 66] (some (.tup [.agg s2,.one (.int .i64)])),Mv 64 67,Ex 68 64 0,Ex 69 64 1,Nw 14 2 z2,Sr 2 14 68,As 15 69])
 (.seq (Rg [0,5,7,9,10,12,14,15] [Mv 70 15,Bc 71 .neq 26 70 .i64 0,Mv 72 71,Hf 73 72 (.load 2 s2 (T 14)),Hf 74 72 (.load 2 s2 (T 10)),Gf 75 72 (.binOp .neq 24 (T 73) (T 74) 24),Ol 76 (.pick (T 72) (.const (.bool true)) (T 75)),Mv 77 76,Gf 78 77 (.move (T 12)),⟨some 79,some (77,false),.call (.func 15) [T 78] vI⟩,Gf 80 77 (.binOp .neq 3 (T 79) (Ci 0) 3),Ol 81 (.pick (T 77) (.const (.bool true)) (T 80))])
 (.cond (T 81) (.seq (Rg [] [Ol 6 (.assign (.const (.bool false)))])
 .ret)
 .skip)))
 .skip))
 (.seq (Rg [0,5,7,9] [Mv 83 0,Ca 84 12 [T 83] (some (.tup [.one .slice,.one (.int .i64)])),Mv 82 84,Ex 85 82 0,Ex 86 82 1,As 16 85,As 17 86])
 (.seq (Rg [0,5,7,9,16,17] [Mv 88 0,Mv 89 16,Ca 90 17 [T 88,T 89] (some (.tup [.one .slice,.one (.int .i64)])),Mv 87 90,Ex 91 87 0,Ex 92 87 1,As 18 91,As 19 92])
 (.seq (.seq (Rg [5,7,9,17,18,19] [Mv 93 17,Bc 94 .neq 26 93 .i64 0,Mv 95 94,Gf 96 95 (.move (T 19)),Gf 97 95 (.binOp .neq 26 (T 96) (Ci 0) 26),Ol 98 (.pick (T 95) (.const (.bool true)) (T 97)),Mv 99 98,Gf 100 99 (.move (T 9)),Gf 101 99 (.binOp .neq 26 (T 100) (Ci 0) 26),Ol 102 (.pick (T 99) (.const (.bool true)) (T 101))])
 (.cond (T 102) (.seq (Rg [7,17,19] [Mv 103 7,Mv 104 103,Gt 105 104 (.move (T 17)),Gt 106 104 (.binOp .eql 26 (T 105) (Ci 0) 26),Ol 107 (.pick (T 104) (T 106) (.const (.bool false))),Mv 108 107,Gt 109 108 (.move (T 19)),Gt 110 108 (.binOp .eql 26 (T 109) (Ci 0) 26),Ol 111 (.pick (T 108) (T 110) (.const (.bool false))),As 6 111])
 .ret)
 .skip))
 (.seq (Rg [5,7,18] [Mv 113 18,Ld 114 5,Ca 115 10 [T 113,T 114] (some (.tup [.agg s2,.one (.int .i64)])),Mv 112 115,Ex 116 112 0,Ex 117 112 1,Nw 20 2 z2,Sr 2 20 116,As 21 117])
 (.seq (Rg [5,7,20,21] [Mv 118 7,Mv 119 118,Gt 120 119 (.move (T 21)),Gt 121 119 (.binOp .eql 26 (T 120) (Ci 0) 26),Ol 122 (.pick (T 119) (T 121) (.const (.bool false))),Mv 123 122,Ht 124 123 (.load 2 s2 (T 20)),Ht 125 123 (.load 2 s2 (T 5)),Gt 126 123 (.binOp .eql 24 (T 124) (T 125) 24),Ol 127 (.pick (T 123) (T 126) (.const (.bool false))),As 6 127])
 .ret))))))))))),
 [.tmp 6],
 [],
 []⟩
def r9 : RFun :=
⟨.seq (Rg [0] [Ol 2 (.assign (.const (.bool false)))])
 (.seq (Rg [0] [Mv 3 0,Ro 4 (.lenS (T 3)),Bc 5 .gtr 3 4 .i64 60,As 2 5])
 .ret),
 [.tmp 2],
 [],
 []⟩
theorem r9_ok : resFun (progU ()) hint live 9 Try.f9 = some r9:=by kernel_rfl
def r10 : RFun :=
⟨.seq (Rg [0,1] [Bo 3 2 1,Nw 4 2 z2,Ac 5 0])
 (.seq (.seq (Rg [0,3,4] [Mv 7 0,Ca 8 14 [T 7] vI,As 6 8])
 (.seq (Rg [0,3,4,6] [Mv 9 6,Bc 10 .neq 26 9 .i64 0])
 (.cond (T 10) (.seq (Rg [4,6] [Ro 11 (.build z2 []),Mv 12 6,Sr 2 4 11,As 5 12])
 .ret)
 .skip)))
 (.seq (.seq (Rg [0,3,4] [Ld 13 3,Ca 14 32 [T 13] vI,Bc 15 .neq 26 14 .i64 0])
 (.cond (T 15) (.seq (Rg [4] [Ro 16 (.build z2 []),Sr 2 4 16,Ac 5 8])
 .ret)
 .skip))
 (.seq (.seq (Rg [0,3,4] [Ld 17 3,Ca 18 33 [T 17,.const (.int .i64 10000)] vB,Ol 19 (.unOp .not 4 (T 18))])
 (.cond (T 19) (.seq (Rg [4] [Ro 20 (.build z2 []),Sr 2 4 20,Ac 5 16])
 .ret)
 .skip))
 (.seq (.seq (.draw (some [0,3,4]) 19 [Db (Ld 21 3) 0 3 [5,6,7,8,9,10,11,12,13,14,15,16,17,18],Dr (Mv 22 0) 1 [2,3,4,5,6,7,8,9,10,11,12,13,14,15,16,17,18],Dr (Ro 23 (.ixS 4 (T 22) (Ci 0))) 2 [3,4,5,6,7,8,9,10,11,12,13,14,15,16,17,18],Dr (Fa 24 0 23) 3 [4,5,6,7,8,9,10,11,12,13,14,15,16,17,18],Db (Ld 25 24) 4 24 [5,6,7,8,9,10,11,12,13,14,15,16,17,18],⟨Ca 26 34 [T 21,T 25] vI,5,.all,[6,7,8,9,10,11,12,13,14,15,16,17,18],false,false⟩,Dr (Bc 27 .lss 3 26 .i64 0) 6 [7,8,9,10,11,12,13,14,15,16,17,18],Dr (Mv 28 27) 7 [8,9,10,11,12,13,14,15,16,17,18],⟨Hf 29 28 (.load 2 s2 (T 3)),8,.blk (T 3),[16,17,18],false,true⟩,⟨Gf 30 28 (.move (T 0)),9,.none,[13,14,15,16,17,18],false,true⟩,⟨Gf 31 28 (.move (T 0)),10,.none,[11,12,13,14,15,16,17,18],false,true⟩,⟨Hf 32 28 (.lenS (T 31)),11,.none,[12,13,14,15,16,17,18],false,true⟩,⟨Gf 33 28 (.binOp .sub 3 (T 32) (Ci 1) 3),12,.none,[13,14,15,16,17,18],false,true⟩,⟨Hf 34 28 (.ixS 4 (T 30) (T 33)),13,.none,[14,15,16,17,18],false,true⟩,⟨Hf 35 28 (.fieldAddr 0 (T 34)),14,.none,[15,16,17,18],false,true⟩,⟨Hf 36 28 (.load 2 s2 (T 35)),15,.blk (T 35),[16,17,18],false,true⟩,⟨⟨some 37,some (28,false),.call (.func 34) [T 29,T 36] vI⟩,16,.all,[17,18],false,false⟩,⟨Gf 38 28 (.binOp .gtr 3 (T 37) (Ci 0) 3),17,.none,[18],false,true⟩,Dr (Ol 39 (.pick (T 28) (.const (.bool true)) (T 38))) 18 []])
 (.cond (T 39) (.seq (Rg [4] [Ro 40 (.build z2 []),Sr 2 4 40,Ac 5 6])
 .ret)
 .skip))
 (.seq (Rg [0,3,4] [Mv 41 0,Ld 42 3,Ca 43 35 [T 41,T 42] (some (.tup [.agg s2,.one (.int .i64)])),Ex 44 43 0,Ex 45 43 1,Sr 2 4 44,As 5 45])
 .ret))))),
 [.agg 4 2 [.int .i64,.int .i64],.tmp 5],
 [],
 []⟩
theorem r10_ok : resFun (progU ()) hint live 10 Try.f10 = some r10:=by kernel_rfl
def r11 : RFun :=
⟨.seq (Rg [0,1] [Bo 3 2 1,Nw 4 2 z2,Ac 5 0])
 (.seq (.seq (Rg [0,3,4] [Mv 6 0,Ca 7 15 [T 6] vI,Bc 8 .neq 3 7 .i64 0])
 (.cond (T 8) (.seq (Rg [0,4] [Ro 9 (.build z2 []),Mv 10 0,Ca 11 15 [T 10] vI,Sr 2 4 9,As 5 11])
 .ret)
 .skip))
 (.seq (.seq (Rg [0,3,4] [Ld 12 3,Ca 13 28 [T 12] vI,Bc 14 .neq 3 13 .i64 0])
 (.cond (T 14) (.seq (Rg [4] [Ro 15 (.build z2 []),Sr 2 4 15,Ac 5 8])
 .ret)
 .skip))
 (.seq (.seq (Rg [0,3,4] [Ld 16 3,Ca 17 29 [T 16,.const (.int .i64 10000)] vB,Ol 18 (.unOp .not 4 (T 17))])
 (.cond (T 18) (.seq (Rg [4] [Ro 19 (.build z2 []),Sr 2 4 19,Ac 5 16])
 .ret)
 .skip))
 (.seq (.seq (.draw (some [0,3,4]) 17 [Db (Ld 20 3) 0 3 [5,6,7,8,9,10,11,12,13,14,15,16],Dr (Mv 21 0) 1 [2,3,4,5,6,7,8,9,10,11,12,13,14,15,16],Dr (Ro 22 (.ixS 4 (T 21) (Ci 0))) 2 [3,4,5,6,7,8,9,10,11,12,13,14,15,16],Dr (Fa 23 0 22) 3 [4,5,6,7,8,9,10,11,12,13,14,15,16],Db (Ld 24 23) 4 23 [5,6,7,8,9,10,11,12,13,14,15,16],⟨Ca 25 27 [T 20,T 24] vB,5,.all,[6,7,8,9,10,11,12,13,14,15,16],false,false⟩,Dr (Mv 26 25) 6 [7,8,9,10,11,12,13,14,15,16],⟨Gf 27 26 (.move (T 0)),7,.none,[11,12,13,15,16],false,true⟩,⟨Gf 28 26 (.move (T 0)),8,.none,[9,10,11,12,13,15,16],false,true⟩,⟨Hf 29 26 (.lenS (T 28)),9,.none,[10,11,12,13,15,16],false,true⟩,⟨Gf 30 26 (.binOp .sub 3 (T 29) (Ci 1) 3),10,.none,[11,12,13,15,16],false,true⟩,⟨Hf 31 26 (.ixS 4 (T 27) (T 30)),11,.none,[12,13,15,16],false,true⟩,⟨Hf 32 26 (.fieldAddr 0 (T 31)),12,.none,[13,15,16],false,true⟩,⟨Hf 33 26 (.load 2 s2 (T 32)),13,.blk (T 32),[15,16],false,true⟩,⟨Hf 34 26 (.load 2 s2 (T 3)),14,.blk (T 3),[15,16],false,true⟩,⟨⟨some 35,some (26,false),.call (.func 27) [T 33,T 34] vB⟩,15,.all,[16],false,false⟩,Dr (Ol 36 (.pick (T 26) (.const (.bool true)) (T 35))) 16 []])
 (.cond (T 36) (.seq (Rg [4] [Ro 37 (.build z2 []),Sr 2 4 37,Ac 5 6])
 .ret)
 .skip))
 (.seq (Rg [0,3,4] [Mv 38 0,Ld 39 3,Ca 40 36 [T 38,T 39] (some (.val (.agg s2))),Sr 2 4 40,Ac 5 0])
 .ret))))),
 [.agg 4 2 [.int .i64,.int .i64],.tmp 5],
 [],
 []⟩
theorem r11_ok : resFun (progU ()) hint live 11 Try.f11 = some r11:=by kernel_rfl
def r14 : RFun :=
⟨.seq (Rg [0] [Ac 2 0])
 (.seq (.seq (Rg [0] [Mv 5 0,Ro 6 (.lenS (T 5)),Bc 7 .gtr 3 6 .i64 40])
 (.cond (T 7) (.seq (Rg [] [Ac 2 4])
 .ret)
 .skip))
 (.seq (.seq (Rg [0] [Mv 8 0,Ro 9 (.lenS (T 8)),Bc 10 .lss 3 9 .i64 2])
 (.cond (T 10) (.seq (Rg [] [Ac 2 8])
 .ret)
 .skip))
 (.seq (.seq (Rg [0] [Mv 11 0,Ro 12 (.lenS (T 11)),Ol 13 (.move (Ci 0))])
 (.block 0 (.loop 6 (some [0,11,12,13]) (some [0,11,12,13]))))
 (.seq (Rg [] [Ac 2 0])
 .ret)))),
 [.tmp 2],
 [(6,⟨some [0,11,12,13],some [0,11,12,13],.seq (Rg [0,11,12,13] [Bt 14 .lss 3 13 12])
 (.seq (.cond (T 14) .skip
 (.exit 0 (some [])))
 (.seq (.block 1 (.seq (Rg [0,11,12,13] [Mv 15 13,Ix 16 4 11 13,Ro 17 (.load 4 [.int .i64,.int .i64,.int .i64,.int .i64] (T 16)),Nw 4 4 [.int .i64 0,.int .i64 0,.int .i64 0,.int .i64 0],As 3 15,Sr 4 4 17])
 (.seq (.seq (Rg [0,3,4,11,12,13] [Fa 18 0 4,Ld 19 18,Ca 20 33 [T 19,.const (.int .i64 100)] vB,Ol 21 (.unOp .not 4 (T 20)),Mv 22 21,Hf 23 22 (.fieldAddr 2 (T 4)),Hf 24 22 (.load 2 s2 (T 23)),⟨some 25,some (22,false),.call (.func 33) [T 24,.const (.int .i64 100)] vB⟩,Gf 26 22 (.unOp .not 4 (T 25)),Ol 27 (.pick (T 22) (.const (.bool true)) (T 26))])
 (.cond (T 27) (.seq (Rg [] [Ac 2 8])
 .ret)
 .skip))
 (.seq (.draw (some [0,3,4,11,12,13]) 26 [Dr (Mv 28 3) 0 [1,2,3,4,5,6,7,8,9,10,11,12,13,14,15,16,17,18,19,20,21,22,23,24,25],Dr (Bc 29 .gtr 3 28 .i64 0) 1 [2,3,4,5,6,7,8,9,10,11,12,13,14,15,16,17,18,19,20,21,22,23,24,25],Dr (Mv 30 29) 2 [3,4,5,6,7,8,9,10,11,12,13,14,15,16,17,18,19,20,21,22,23,24,25],⟨Gt 31 30 (.move (T 0)),3,.none,[6,7,8,11,12,13,14,15,16,17,18,19,20,21,22,23,24,25],false,true⟩,⟨Gt 32 30 (.move (T 3)),4,.none,[5,6,7,8,11,12,13,14,15,16,17,18,19,20,21,22,23,24,25],false,true⟩,⟨Gt 33 30 (.binOp .sub 3 (T 32) (Ci 1) 3),5,.none,[6,7,8,11,12,13,14,15,16,17,18,19,20,21,22,23,24,25],false,true⟩,⟨Ht 34 30 (.ixS 4 (T 31) (T 33)),6,.none,[7,8,11,12,13,14,15,16,17,18,19,20,21,22,23,24,25],false,true⟩,⟨Ht 35 30 (.fieldAddr 0 (T 34)),7,.none,[8,11,12,13,14,15,16,17,18,19,20,21,22,23,24,25],false,true⟩,⟨Ht 36 30 (.load 2 s2 (T 35)),8,.blk (T 35),[11,12,13,14,15,16,17,18,19,20,21,22,23,24,25],false,true⟩,⟨Ht 37 30 (.fieldAddr 0 (T 4)),9,.none,[10,11,12,13,14,15,16,17,18,19,20,21,22,23,24,25],false,true⟩,⟨Ht 38 30 (.load 2 s2 (T 37)),10,.blk (T 37),[11,12,13,14,15,16,17,18,19,20,21,22,23,24,25],false,true⟩,⟨⟨some 39,some (30,true),.call (.func 34) [T 36,T 38] vI⟩,11,.all,[12,13,14,15,16,17,18,19,20,21,22,23,24,25],false,false⟩,⟨Gt 40 30 (.binOp .geq 3 (T 39) (Ci 0) 3),12,.none,[13,14,15,16,17,18,19,20,21,22,23,24,25],false,true⟩,⟨Gt 41 30 (.move (T 40)),13,.none,[14,15,16,17,18,19,20,21,22,23,24,25],false,true⟩,⟨Gf 42 41 (.move (T 0)),14,.none,[17,18,19,22,23,24,25],false,true⟩,⟨Gf 43 41 (.move (T 3)),15,.none,[16,17,18,19,22,23,24,25],false,true⟩,⟨Gf 44 41 (.binOp .sub 3 (T 43) (Ci 1) 3),16,.none,[17,18,19,22,23,24,25],false,true⟩,⟨Hf 45 41 (.ixS 4 (T 42) (T 44)),17,.none,[18,19,22,23,24,25],false,true⟩,⟨Hf 46 41 (.fieldAddr 2 (T 45)),18,.none,[19,22,23,24,25],false,true⟩,⟨Hf 47 41 (.load 2 s2 (T 46)),19,.blk (T 46),[22,23,24,25],false,true⟩,⟨Hf 48 41 (.fieldAddr 2 (T 4)),20,.none,[21,22,23,24,25],false,true⟩,⟨Hf 49 41 (.load 2 s2 (T 48)),21,.blk (T 48),[22,23,24,25],false,true⟩,⟨⟨some 50,some (41,false),.call (.func 34) [T 47,T 49] vI⟩,22,.all,[23,24,25],false,false⟩,⟨Gf 51 41 (.binOp .geq 3 (T 50) (Ci 0) 3),23,.none,[24,25],false,true⟩,⟨Gt 52 30 (.pick (T 41) (.const (.bool true)) (T 51)),24,.none,[25],false,true⟩,Dr (Ol 53 (.pick (T 30) (T 52) (.const (.bool false)))) 25 []])
 (.cond (T 53) (.seq (Rg [] [Ac 2 8])
 .ret)
 .skip)))))
 (Rg [0,11,12,13] [Bc 54 .add 3 13 .i64 1,Mv 13 54])))⟩)],
 []⟩
theorem r14_ok : resFun (progU ()) hint live 14 Try.f14 = some r14:=by kernel_rfl
def r15 : RFun :=
⟨.seq (Rg [0] [Ac 2 0])
 (.seq (.seq (Rg [0] [Mv 5 0,Ro 6 (.lenS (T 5)),Bc 7 .gtr 3 6 .i64 40])
 (.cond (T 7) (.seq (Rg [] [Ac 2 4])
 .ret)
 .skip))
 (.seq (.seq (Rg [0] [Ac 3 0])
 (.block 0 (.loop 4 none (some [0,3]))))
 (.seq (.seq (Rg [0] [Ac 4 1])
 (.block 2 (.loop 9 (some [0,4]) (some [0,4]))))
 (.seq (.seq (Rg [0] [Mv 64 0,Ro 65 (.lenS (T 64)),Bc 66 .lss 3 65 .i64 2])
 (.cond (T 66) (.seq (Rg [] [Ac 2 8])
 .ret)
 .skip))
 (.seq (Rg [] [Ac 2 0])
 .ret))))),
 [.tmp 2],
 [(4,⟨none,some [0,3],.seq (.seq (Rg [0,3] [Mv 8 3,Mv 9 0,Ro 10 (.lenS (T 9)),Bt 11 .lss 3 8 10])
 (.cond (T 11) .skip
 (.exit 0 (some [0]))))
 (.seq (.block 1 (.seq (Rg [0,3] [Mv 14 0,Mv 15 3,Ix 16 4 14 15,Fa 17 0 16,Ld 18 17,Ca 19 29 [T 18,.const (.int .i64 100)] vB,Ol 20 (.unOp .not 4 (T 19)),Mv 21 20,Gf 22 21 (.move (T 0)),Gf 23 21 (.move (T 3)),Hf 24 21 (.ixS 4 (T 22) (T 23)),Hf 25 21 (.fieldAddr 2 (T 24)),Hf 26 21 (.load 2 s2 (T 25)),⟨some 27,some (21,false),.call (.func 29) [T 26,.const (.int .i64 100)] vB⟩,Gf 28 21 (.unOp .not 4 (T 27)),Ol 29 (.pick (T 21) (.const (.bool true)) (T 28))])
 (.cond (T 29) (.seq (Rg [] [Ac 2 8])
 .ret)
 .skip)))
 (Rg [0,3] [Mv 12 3,Bc 13 .add 3 12 .i64 1,As 3 13]))⟩),(9,⟨some [0,4],some [0,4],.seq (.seq (Rg [0,4] [Mv 30 4,Mv 31 0,Ro 32 (.lenS (T 31)),Bt 33 .lss 3 30 32])
 (.cond (T 33) .skip
 (.exit 2 (some [0]))))
 (.seq (.block 3 (.seq (.draw (some [0,4]) 28 [Dr (Mv 36 0) 0 [3,4,5,11,12,13,14,15,16,17,18,19,20,21,22,23,24,25,26,27],Dr (Mv 37 4) 1 [2,3,4,5,11,12,13,14,15,16,17,18,19,20,21,22,23,24,25,26,27],Dr (Bc 38 .sub 3 37 .i64 1) 2 [3,4,5,11,12,13,14,15,16,17,18,19,20,21,22,23,24,25,26,27],Dr (Ix 39 4 36 38) 3 [4,5,11,12,13,14,15,16,17,18,19,20,21,22,23,24,25,26,27],Dr (Fa 40 0 39) 4 [5,11,12,13,14,15,16,17,18,19,20,21,22,23,24,25,26,27],Db (Ld 41 40) 5 40 [11,12,13,14,15,16,17,18,19,20,21,22,23,24,25,26,27],Dr (Mv 42 0) 6 [8,9,10,11,12,13,14,15,16,17,18,19,20,21,22,23,24,25,26,27],Dr (Mv 43 4) 7 [8,9,10,11,12,13,14,15,16,17,18,19,20,21,22,23,24,25,26,27],Dr (Ix 44 4 42 43) 8 [9,10,11,12,13,14,15,16,17,18,19,20,21,22,23,24,25,26,27],Dr (Fa 45 0 44) 9 [10,11,12,13,14,15,16,17,18,19,20,21,22,23,24,25,26,27],Db (Ld 46 45) 10 45 [11,12,13,14,15,16,17,18,19,20,21,22,23,24,25,26,27],⟨Ca 47 27 [T 41,T 46] vB,11,.all,[12,13,14,15,16,17,18,19,20,21,22,23,24,25,26,27],false,false⟩,Dr (Ol 48 (.unOp .not 4 (T 47))) 12 [13,14,15,16,17,18,19,20,21,22,23,24,25,26,27],Dr (Mv 49 48) 13 [14,15,16,17,18,19,20,21,22,23,24,25,26,27],⟨Gf 50 49 (.move (T 0)),14,.none,[17,18,19,25,26,27],false,true⟩,⟨Gf 51 49 (.move (T 4)),15,.none,[16,17,18,19,25,26,27],false,true⟩,⟨Gf 52 49 (.binOp .sub 3 (T 51) (Ci 1) 3),16,.none,[17,18,19,25,26,27],false,true⟩,⟨Hf 53 49 (.ixS 4 (T 50) (T 52)),17,.none,[18,19,25,26,27],false,true⟩,⟨Hf 54 49 (.fieldAddr 2 (T 53)),18,.none,[19,25,26,27],false,true⟩,⟨Hf 55 49 (.load 2 s2 (T 54)),19,.blk (T 54),[25,26,27],false,true⟩,⟨Gf 56 49 (.move (T 0)),20,.none,[22,23,24,25,26,27],false,true⟩,⟨Gf 57 49 (.move (T 4)),21,.none,[22,23,24,25,26,27],false,true⟩,⟨Hf 58 49 (.ixS 4 (T 56) (T 57)),22,.none,[23,24,25,26,27],false,true⟩,⟨Hf 59 49 (.fieldAddr 2 (T 58)),23,.none,[24,25,26,27],false,true⟩,⟨Hf 60 49 (.load 2 s2 (T 59)),24,.blk (T 59),[25,26,27],false,true⟩,⟨⟨some 61,some (49,false),.call (.func 27) [T 55,T 60] vB⟩,25,.all,[26,27],false,false⟩,⟨Gf 62 49 (.unOp .not 4 (T 61)),26,.none,[27],false,true⟩,Dr (Ol 63 (.pick (T 49) (.const (.bool true)) (T 62))) 27 []])
 (.cond (T 63) (.seq (Rg [] [Ac 2 8])
 .ret)
 .skip)))
 (Rg [0,4] [Mv 34 4,Bc 35 .add 3 34 .i64 1,As 4 35]))⟩)],
 []⟩
theorem r15_ok : resFun (progU ()) hint live 15 Try.f15 = some r15:=by kernel_rfl
def r16 : RFun :=
⟨.seq (Rg [0,1] [Ol 4 (.assign (.const (.bool false)))])
 (.seq (.seq (Rg [0,1] [Mv 6 0,Ro 7 (.lenS (T 6)),Mv 8 1,Ro 9 (.lenS (T 8)),Bt 10 .neq 3 7 9])
 (.cond (T 10) (.seq (Rg [] [Ol 4 (.assign (.const (.bool false)))])
 .ret)
 .skip))
 (.seq (.seq (Rg [0,1] [Ac 5 0])
 (.block 0 (.loop 4 (some [0,1,5]) (some [0,1,5]))))
 (.seq (Rg [] [Ol 4 (.assign (.const (.bool true)))])
 .ret))),
 [.tmp 4],
 [(4,⟨some [0,1,5],some [0,1,5],.seq (.seq (Rg [0,1,5] [Mv 11 5,Mv 12 0,Ro 13 (.lenS (T 12)),Bt 14 .lss 3 11 13])
 (.cond (T 14) .skip
 (.exit 0 (some []))))
 (.seq (.block 1 (.seq (.draw (some [0,1,5]) 9 [Dr (Mv 17 0) 0 [2,3,8],Dr (Mv 18 5) 1 [2,3,8],Dr (Ix 19 4 17 18) 2 [3,8],Db (Ro 20 (.load 4 [.int .i64,.int .i64,.int .i64,.int .i64] (T 19))) 3 19 [8],Dr (Mv 21 1) 4 [6,7,8],Dr (Mv 22 5) 5 [6,7,8],Dr (Ix 23 4 21 22) 6 [7,8],Db (Ro 24 (.load 4 [.int .i64,.int .i64,.int .i64,.int .i64] (T 23))) 7 23 [8],Dr (Bt 25 .neq 51 20 24) 8 []])
 (.cond (T 25) (.seq (Rg [] [Ol 4 (.assign (.const (.bool false)))])
 .ret)
 .skip)))
 (Rg [0,1,5] [Mv 15 5,Bc 16 .add 3 15 .i64 1,As 5 16]))⟩)],
 []⟩
theorem r16_ok : resFun (progU ()) hint live 16 Try.f16 = some r16:=by kernel_rfl
