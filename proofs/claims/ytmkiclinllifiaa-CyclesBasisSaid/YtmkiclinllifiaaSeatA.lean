import Derived.Test.YtmkiclinllifiaaSeat0
import Derived.Test.YtmkiclinllifiaaSymS
set_option linter.unusedSimpArgs false
set_option linter.unusedVariables false
namespace Go.Proofs.Ytmkiclinllifiaa
open Go.Sim
set_option maxRecDepth 100000
def r2 : RFun :=
⟨Rg [] [Ca 0 1 [] (some (.tup []))],
 [],
 [],
 []⟩
def r3 : RFun :=
⟨.seq (Rg [0,1,2] [Ol 6 (.assign (.const (.bool false)))])
 (.seq (.seq (Rg [0,1,2] [Mv 25 0,Ro 26 (.lenS (T 25)),Bc 27 .gtr 3 26 .i64 100])
 (.cond (T 27) (.seq (Rg [] [Ol 6 (.assign (.const (.bool true)))])
 .ret)
 .skip))
 (.seq (Rg [0,1,2] [Mv 29 0,Ca 30 10 [T 29] (some (.tup [.one .slice,.one (.int .i64),.one (.int .i64)])),Mv 28 30,Ex 31 28 0,Ex 32 28 1,Ex 33 28 2,As 7 31,As 8 32,As 9 33])
 (.seq (Rg [0,1,2,7,8,9] [Mv 35 0,Ca 36 11 [T 35] (some (.tup [.one .slice,.one (.int .i64),.one (.int .i64)])),Mv 34 36,Ex 37 34 0,Ex 38 34 1,Ex 39 34 2,As 10 37,As 11 38,As 12 39])
 (.seq (Rg [0,1,2,7,8,9,10,11,12] [Mv 41 0,Ca 42 12 [T 41] (some (.tup [.one .slice,.one (.int .i64)])),Mv 40 42,Ex 43 40 0,Ex 44 40 1,As 13 43,As 14 44])
 (.seq (Rg [0,1,2,7,8,9,10,11,12,13,14] [Mv 46 0,Ca 47 13 [T 46] (some (.tup [.one .slice,.one (.int .i64)])),Mv 45 47,Ex 48 45 0,Ex 49 45 1,As 15 48,As 16 49])
 (.seq (Rg [0,1,2,7,8,9,10,11,12,13,14,15,16] [Mv 51 0,Ca 52 14 [T 51] (some (.tup [.one .slice,.one (.int .i64)])),Mv 50 52,Ex 53 50 0,Ex 54 50 1,As 17 53,As 18 54])
 (.seq (Rg [0,1,2,7,8,9,10,11,12,13,14,15,16,17,18] [Mv 56 0,Ca 57 15 [T 56] (some (.tup [.one .slice,.one (.int .i64)])),Mv 55 57,Ex 58 55 0,Ex 59 55 1,As 19 58,As 20 59])
 (.seq (Rg [0,1,2,7,8,9,10,11,12,13,14,15,16,17,18,19,20] [Mv 61 0,Mv 62 1,Mv 63 2,Ca 64 16 [T 61,T 62,T 63] (some (.tup [.one .slice,.one (.int .i64)])),Mv 60 64,Ex 65 60 0,Ex 66 60 1,As 21 65,As 22 66])
 (.seq (Rg [0,1,2,7,8,9,10,11,12,13,14,15,16,17,18,19,20,21,22] [Mv 68 0,Mv 69 1,Mv 70 2,Ca 71 17 [T 68,T 69,T 70] (some (.tup [.one .slice,.one (.int .i64)])),Mv 67 71,Ex 72 67 0,Ex 73 67 1,As 23 72,As 24 73])
 (.seq (Rg [7,8,9,10,11,12,13,14,15,16,17,18,19,20,21,22,23,24] [Mv 74 7,Mv 75 10,Ca 76 18 [T 74,T 75] vB,Mv 77 76,Gt 78 77 (.move (T 8)),Gt 79 77 (.move (T 11)),Gt 80 77 (.binOp .eql 3 (T 78) (T 79) 3),Ol 81 (.pick (T 77) (T 80) (.const (.bool false))),Mv 82 81,Gt 83 82 (.move (T 9)),Gt 84 82 (.move (T 12)),Gt 85 82 (.binOp .eql 3 (T 83) (T 84) 3),Ol 86 (.pick (T 82) (T 85) (.const (.bool false))),Mv 87 86,Gt 88 87 (.move (T 13)),Gt 89 87 (.move (T 15)),⟨some 90,some (87,true),.call (.func 18) [T 88,T 89] vB⟩,Ol 91 (.pick (T 87) (T 90) (.const (.bool false))),Mv 92 91,Gt 93 92 (.move (T 14)),Gt 94 92 (.move (T 16)),Gt 95 92 (.binOp .eql 3 (T 93) (T 94) 3),Ol 96 (.pick (T 92) (T 95) (.const (.bool false))),Mv 97 96,Gt 98 97 (.move (T 17)),Gt 99 97 (.move (T 19)),⟨some 100,some (97,true),.call (.func 19) [T 98,T 99] vB⟩,Ol 101 (.pick (T 97) (T 100) (.const (.bool false))),Mv 102 101,Gt 103 102 (.move (T 18)),Gt 104 102 (.move (T 20)),Gt 105 102 (.binOp .eql 3 (T 103) (T 104) 3),Ol 106 (.pick (T 102) (T 105) (.const (.bool false))),Mv 107 106,Gt 108 107 (.move (T 21)),Gt 109 107 (.move (T 23)),⟨some 110,some (107,true),.call (.func 20) [T 108,T 109] vB⟩,Ol 111 (.pick (T 107) (T 110) (.const (.bool false))),Mv 112 111,Gt 113 112 (.move (T 22)),Gt 114 112 (.move (T 24)),Gt 115 112 (.binOp .eql 3 (T 113) (T 114) 3),Ol 116 (.pick (T 112) (T 115) (.const (.bool false))),As 6 116])
 .ret)))))))))),
 [.tmp 6],
 [],
 []⟩
def r4 : RFun :=
⟨.seq (Rg [0,1] [Ol 4 (.assign (.const (.bool false)))])
 (.seq (Rg [0,1] [Ca 14 21 [] vB,As 5 14])
 (.seq (.seq (Rg [0,1,5] [Mv 15 0,Ca 16 22 [T 15] vI,Bc 17 .neq 3 16 .i64 0,Mv 18 17,Gf 19 18 (.move (T 1)),Hf 20 18 (.lenS (T 19)),Gf 21 18 (.binOp .gtr 3 (T 20) (Ci 20) 3),Ol 22 (.pick (T 18) (.const (.bool true)) (T 21)),Mv 23 22,Gf 24 23 (.move (T 5)),Gf 25 23 (.unOp .not 4 (T 24)),Ol 26 (.pick (T 23) (.const (.bool true)) (T 25))])
 (.cond (T 26) (.seq (Rg [5] [Mv 27 5,As 4 27])
 .ret)
 .skip))
 (.seq (Rg [0,1,5] [Mv 29 0,Mv 30 1,Ca 31 23 [T 29,T 30] (some (.tup [.one .slice,.one (.int .i64)])),Mv 28 31,Ex 32 28 0,Ex 33 28 1,As 6 32,As 7 33])
 (.seq (Rg [0,1,5,6,7] [Mv 35 0,Ca 36 14 [T 35] (some (.tup [.one .slice,.one (.int .i64)])),Mv 34 36,Ex 37 34 0,Ex 38 34 1,As 8 37,As 9 38])
 (.seq (.seq (Rg [0,1,5,6,7,8,9] [Mv 39 7,Bc 40 .neq 24 39 .i64 0])
 (.cond (T 40) (.seq (Rg [5,6,9] [Mv 41 5,Mv 42 41,Gt 43 42 (.move (T 9)),Gt 44 42 (.binOp .eql 24 (T 43) (Ci 0) 24),Ol 45 (.pick (T 42) (T 44) (.const (.bool false))),Mv 46 45,Gt 47 46 (.move (T 6)),Ht 48 46 (.lenS (T 47)),Gt 49 46 (.binOp .eql 3 (T 48) (Ci 0) 3),Ol 50 (.pick (T 46) (T 49) (.const (.bool false))),As 4 50])
 .ret)
 .skip))
 (.seq (.seq (Rg [0,1,5,6,8,9] [Mv 51 9,Bc 52 .neq 24 51 .i64 0,Mv 53 52,Gf 54 53 (.move (T 6)),Hf 55 53 (.lenS (T 54)),Gf 56 53 (.move (T 8)),Hf 57 53 (.lenS (T 56)),Gf 58 53 (.binOp .neq 3 (T 55) (T 57) 3),Ol 59 (.pick (T 53) (.const (.bool true)) (T 58))])
 (.cond (T 59) (.seq (Rg [] [Ol 4 (.assign (.const (.bool false)))])
 .ret)
 .skip))
 (.seq (Rg [0,1,5,6,8] [Mv 60 0,Ca 61 24 [T 60] (some (.val (.one .slice))),As 10 61])
 (.seq (.seq (Rg [1,5,6,8,10] [Ac 11 0])
 (.block 0 (.loop 12 (some [1,5,6,8,10,11]) (some [1,5,6,8,10,11]))))
 (.seq (Rg [5] [Mv 130 5,As 4 130])
 .ret))))))))),
 [.tmp 4],
 [(12,⟨some [1,5,6,8,10,11],some [1,5,6,8,10,11],.seq (.seq (Rg [1,5,6,8,10,11] [Mv 62 11,Mv 63 10,Ro 64 (.lenS (T 63)),Bt 65 .lss 3 62 64])
 (.cond (T 65) .skip
 (.exit 0 (some [5]))))
 (.seq (.block 1 (.seq (Rg [1,5,6,8,10,11] [Ac 12 0])
 (.seq (.seq (Rg [1,5,6,8,10,11,12] [Ac 13 0])
 (.block 2 (.loop 16 (some [1,5,6,8,10,11,12,13]) (some [1,5,6,8,10,11,12,13]))))
 (.seq (.draw (some [1,5,6,8,10,11,12]) 14 [Dr (Mv 116 12) 0 [13],Dr (Mv 117 1) 1 [12,13],Dr (Mv 118 10) 2 [4,5,6,12,13],Dr (Mv 119 11) 3 [4,5,6,12,13],Dr (Ix 120 2 118 119) 4 [5,6,12,13],Dr (Fa 121 0 120) 5 [6,12,13],Db (L1 122 121) 6 121 [12,13],Dr (Mv 123 10) 7 [9,10,11,12,13],Dr (Mv 124 11) 8 [9,10,11,12,13],Dr (Ix 125 2 123 124) 9 [10,11,12,13],Dr (Fa 126 1 125) 10 [11,12,13],Db (L1 127 126) 11 126 [12,13],⟨Ca 128 26 [T 117,T 122,T 127] vI,12,.all,[13],false,false⟩,Dr (Bt 129 .neq 3 116 128) 13 []])
 (.cond (T 129) (.seq (Rg [] [Ol 4 (.assign (.const (.bool false)))])
 .ret)
 .skip)))))
 (Rg [1,5,6,8,10,11] [Mv 66 11,Bc 67 .add 3 66 .i64 1,As 11 67]))⟩),(16,⟨some [1,5,6,8,10,11,12,13],some [1,5,6,8,10,11,12,13],.seq (.seq (Rg [1,5,6,8,10,11,12,13] [Mv 68 13,Mv 69 8,Ro 70 (.lenS (T 69)),Bt 71 .lss 3 68 70])
 (.cond (T 71) .skip
 (.exit 2 (some [1,5,6,8,10,11,12]))))
 (.seq (.block 3 (.seq (.seq (Rg [1,5,6,8,10,11,12,13] [Mv 74 8,Mv 75 13,Ix 76 1 74 75,Ro 77 (.load1 .slice (T 76)),Ca 78 25 [T 77] vB,Ol 79 (.unOp .not 4 (T 78)),Mv 80 79,Gf 81 80 (.move (T 6)),Gf 82 80 (.move (T 13)),Hf 83 80 (.ixS 1 (T 81) (T 82)),Hf 84 80 (.load1 (.int .i64) (T 83)),Gf 85 80 (.binOp .lss 3 (T 84) (.const (.int .i64 (-1))) 3),Ol 86 (.pick (T 80) (.const (.bool true)) (T 85)),Mv 87 86,Gf 88 87 (.move (T 6)),Gf 89 87 (.move (T 13)),Hf 90 87 (.ixS 1 (T 88) (T 89)),Hf 91 87 (.load1 (.int .i64) (T 90)),Gf 92 87 (.binOp .gtr 3 (T 91) (Ci 1) 3),Ol 93 (.pick (T 87) (.const (.bool true)) (T 92))])
 (.cond (T 93) (.seq (Rg [] [Ol 4 (.assign (.const (.bool false)))])
 .ret)
 .skip))
 (.draw (some [1,5,6,8,10,11,12,13]) 23 [Dr (Mv 94 12) 0 [21,22],Dr (Mv 95 6) 1 [3,4,20,21,22],Dr (Mv 96 13) 2 [3,4,20,21,22],Dr (Ix 97 1 95 96) 3 [4,20,21,22],Db (L1 98 97) 4 97 [20,21,22],Dr (Mv 99 8) 5 [7,8,19,20,21,22],Dr (Mv 100 13) 6 [7,8,19,20,21,22],Dr (Ix 101 1 99 100) 7 [8,19,20,21,22],Db (Ro 102 (.load1 .slice (T 101))) 8 101 [19,20,21,22],Dr (Mv 103 10) 9 [11,12,13,19,20,21,22],Dr (Mv 104 11) 10 [11,12,13,19,20,21,22],Dr (Ix 105 2 103 104) 11 [12,13,19,20,21,22],Dr (Fa 106 0 105) 12 [13,19,20,21,22],Db (L1 107 106) 13 106 [19,20,21,22],Dr (Mv 108 10) 14 [16,17,18,19,20,21,22],Dr (Mv 109 11) 15 [16,17,18,19,20,21,22],Dr (Ix 110 2 108 109) 16 [17,18,19,20,21,22],Dr (Fa 111 1 110) 17 [18,19,20,21,22],Db (L1 112 111) 18 111 [19,20,21,22],⟨Ca 113 26 [T 102,T 107,T 112] vI,19,.all,[20,21,22],false,false⟩,Dr (Bt 114 .mul 3 98 113) 20 [21,22],Dr (Bt 115 .add 3 94 114) 21 [22],Dr (As 12 115) 22 []])))
 (Rg [1,5,6,8,10,11,12,13] [Mv 72 13,Bc 73 .add 3 72 .i64 1,As 13 73]))⟩)],
 []⟩
def r5 : RFun :=
⟨.seq (Rg [0] [Ol 2 (.assign (.const (.bool false)))])
 (.seq (Rg [0] [Ca 22 21 [] vB,As 3 22])
 (.seq (.seq (Rg [0,3] [Mv 23 0,Ca 24 22 [T 23] vI,Bc 25 .neq 3 24 .i64 0,Mv 26 25,Gf 27 26 (.move (T 3)),Gf 28 26 (.unOp .not 4 (T 27)),Ol 29 (.pick (T 26) (.const (.bool true)) (T 28))])
 (.cond (T 29) (.seq (Rg [3] [Mv 30 3,As 2 30])
 .ret)
 .skip))
 (.seq (Rg [0,3] [Mv 32 0,Ca 33 10 [T 32] (some (.tup [.one .slice,.one (.int .i64),.one (.int .i64)])),Mv 31 33,Ex 34 31 0,Ex 35 31 1,Ex 36 31 2,As 4 34,As 5 35,As 6 36])
 (.seq (Rg [0,3,4,5,6] [Mv 38 0,Ca 39 12 [T 38] (some (.tup [.one .slice,.one (.int .i64)])),Mv 37 39,Ex 40 37 0,Ex 41 37 1,As 7 40,As 8 41])
 (.seq (Rg [0,3,4,5,6,7,8] [Mv 43 0,Ca 44 14 [T 43] (some (.tup [.one .slice,.one (.int .i64)])),Mv 42 44,Ex 45 42 0,Ex 46 42 1,As 9 45,As 10 46])
 (.seq (Rg [0,3,4,5,6,7,8,9,10] [Mv 47 0,Ca 48 24 [T 47] (some (.val (.one .slice))),As 11 48])
 (.seq (Rg [0,3,4,5,6,7,8,9,10,11] [Ac 12 0])
 (.seq (.seq (Rg [0,3,4,5,6,7,8,9,10,11,12] [Ac 13 0])
 (.block 0 (.loop 10 none (some [0,3,4,5,6,7,8,9,10,11,12,13]))))
 (.seq (.seq (Rg [0,3,4,5,6,7,8,9,10,11,12] [Mv 58 6,Bc 59 .neq 24 58 .i64 0,Mv 60 59,Gf 61 60 (.move (T 8)),Gf 62 60 (.binOp .neq 24 (T 61) (Ci 0) 24),Ol 63 (.pick (T 60) (.const (.bool true)) (T 62)),Mv 64 63,Gf 65 64 (.move (T 10)),Gf 66 64 (.binOp .neq 24 (T 65) (Ci 0) 24),Ol 67 (.pick (T 64) (.const (.bool true)) (T 66)),Mv 68 67,Gf 69 68 (.move (T 7)),Hf 70 68 (.lenS (T 69)),Gf 71 68 (.move (T 11)),Hf 72 68 (.lenS (T 71)),Gf 73 68 (.move (T 12)),Gf 74 68 (.binOp .sub 3 (T 72) (T 73) 3),Gf 75 68 (.move (T 5)),Gf 76 68 (.binOp .add 3 (T 74) (T 75) 3),Gf 77 68 (.binOp .neq 3 (T 70) (T 76) 3),Ol 78 (.pick (T 68) (.const (.bool true)) (T 77)),Mv 79 78,Gf 80 79 (.move (T 4)),Hf 81 79 (.lenS (T 80)),Gf 82 79 (.move (T 7)),Hf 83 79 (.lenS (T 82)),Gf 84 79 (.binOp .add 3 (T 81) (T 83) 3),Gf 85 79 (.move (T 11)),Hf 86 79 (.lenS (T 85)),Gf 87 79 (.binOp .neq 3 (T 84) (T 86) 3),Ol 88 (.pick (T 79) (.const (.bool true)) (T 87)),Mv 89 88,Gf 90 89 (.move (T 9)),Hf 91 89 (.lenS (T 90)),Gf 92 89 (.move (T 7)),Hf 93 89 (.lenS (T 92)),Gf 94 89 (.binOp .neq 3 (T 91) (T 93) 3),Ol 95 (.pick (T 89) (.const (.bool true)) (T 94))])
 (.cond (T 95) (.seq (Rg [] [Ol 2 (.assign (.const (.bool false)))])
 .ret)
 .skip))
 (.seq (.seq (Rg [0,3,4,7,9,11] [Ac 14 0])
 (.block 2 (.loop 17 (some [0,3,4,7,9,11,14]) (some [0,3,4,7,9,11,14]))))
 (.seq (.seq (Rg [0,3,7,9] [Ac 18 0])
 (.block 8 (.loop 33 (some [0,3,7,9,18]) (some [0,3,7,9,18]))))
 (.seq (Rg [3] [Mv 226 3,As 2 226])
 .ret)))))))))))),
 [.tmp 2],
 [(10,⟨none,some [0,3,4,5,6,7,8,9,10,11,12,13],.seq (.seq (Rg [0,3,4,5,6,7,8,9,10,11,12,13] [Mv 49 13,Bc 50 .lss 3 49 .i64 8])
 (.cond (T 50) .skip
 (.exit 0 (some [0,3,4,5,6,7,8,9,10,11,12]))))
 (.seq (.block 1 (.seq (Rg [0,3,4,5,6,7,8,9,10,11,12,13] [Mv 53 0,Mv 54 13,Ca 55 27 [T 53,T 54] vB])
 (.cond (T 55) (Rg [0,3,4,5,6,7,8,9,10,11,12,13] [Mv 56 12,Bc 57 .add 3 56 .i64 1,As 12 57])
 .skip)))
 (Rg [0,3,4,5,6,7,8,9,10,11,12,13] [Mv 51 13,Bc 52 .add 3 51 .i64 1,As 13 52]))⟩),(17,⟨some [0,3,4,7,9,11,14],some [0,3,4,7,9,11,14],.seq (.seq (Rg [0,3,4,7,9,11,14] [Mv 96 14,Mv 97 11,Ro 98 (.lenS (T 97)),Bt 99 .lss 3 96 98])
 (.cond (T 99) .skip
 (.exit 2 (some [0,3,7,9]))))
 (.seq (.block 3 (.seq (Rg [0,3,4,7,9,11,14] [Ac 15 0])
 (.seq (.seq (Rg [0,3,4,7,9,11,14,15] [Ac 16 0])
 (.block 4 (.loop 21 (some [0,3,4,7,9,11,14,15,16]) (some [0,3,4,7,9,11,14,15,16]))))
 (.seq (.seq (Rg [0,3,4,7,9,11,14,15] [Ac 17 0])
 (.block 6 (.loop 26 (some [0,3,4,7,9,11,14,15,17]) (some [0,3,4,7,9,11,14,15,17]))))
 (.seq (Rg [0,3,4,7,9,11,14,15] [Mv 136 15,Bc 137 .neq 3 136 .i64 1])
 (.cond (T 137) (.seq (Rg [] [Ol 2 (.assign (.const (.bool false)))])
 .ret)
 .skip))))))
 (Rg [0,3,4,7,9,11,14] [Mv 100 14,Bc 101 .add 3 100 .i64 1,As 14 101]))⟩),(21,⟨some [0,3,4,7,9,11,14,15,16],some [0,3,4,7,9,11,14,15,16],.seq (.seq (Rg [0,3,4,7,9,11,14,15,16] [Mv 102 16,Mv 103 4,Ro 104 (.lenS (T 103)),Bt 105 .lss 3 102 104])
 (.cond (T 105) .skip
 (.exit 4 (some [0,3,4,7,9,11,14,15]))))
 (.seq (.block 5 (.seq (.draw (some [0,3,4,7,9,11,14,15,16]) 9 [Dr (Mv 108 4) 0 [2,3,8],Dr (Mv 109 16) 1 [2,3,8],Dr (Ix 110 2 108 109) 2 [3,8],Db (Ld 111 110) 3 110 [8],Dr (Mv 112 11) 4 [6,7,8],Dr (Mv 113 14) 5 [6,7,8],Dr (Ix 114 2 112 113) 6 [7,8],Db (Ld 115 114) 7 114 [8],Dr (Bt 116 .eql 54 111 115) 8 []])
 (.cond (T 116) (Rg [0,3,4,7,9,11,14,15,16] [Mv 117 15,Bc 118 .add 3 117 .i64 1,As 15 118])
 .skip)))
 (Rg [0,3,4,7,9,11,14,15,16] [Mv 106 16,Bc 107 .add 3 106 .i64 1,As 16 107]))⟩),(26,⟨some [0,3,4,7,9,11,14,15,17],some [0,3,4,7,9,11,14,15,17],.seq (.seq (Rg [0,3,4,7,9,11,14,15,17] [Mv 119 17,Mv 120 7,Ro 121 (.lenS (T 120)),Bt 122 .lss 3 119 121])
 (.cond (T 122) .skip
 (.exit 6 (some [0,3,4,7,9,11,14,15]))))
 (.seq (.block 7 (.seq (.draw (some [0,3,4,7,9,11,14,15,17]) 9 [Dr (Mv 125 7) 0 [2,3,8],Dr (Mv 126 17) 1 [2,3,8],Dr (Ix 127 2 125 126) 2 [3,8],Db (Ld 128 127) 3 127 [8],Dr (Mv 129 11) 4 [6,7,8],Dr (Mv 130 14) 5 [6,7,8],Dr (Ix 131 2 129 130) 6 [7,8],Db (Ld 132 131) 7 131 [8],Dr (Bt 133 .eql 54 128 132) 8 []])
 (.cond (T 133) (Rg [0,3,4,7,9,11,14,15,17] [Mv 134 15,Bc 135 .add 3 134 .i64 1,As 15 135])
 .skip)))
 (Rg [0,3,4,7,9,11,14,15,17] [Mv 123 17,Bc 124 .add 3 123 .i64 1,As 17 124]))⟩),(33,⟨some [0,3,7,9,18],some [0,3,7,9,18],.seq (.seq (Rg [0,3,7,9,18] [Mv 138 18,Mv 139 9,Ro 140 (.lenS (T 139)),Bt 141 .lss 3 138 140])
 (.cond (T 141) .skip
 (.exit 8 (some [3]))))
 (.seq (.block 9 (.seq (Rg [0,3,7,9,18] [Mv 145 0,Mv 146 9,Mv 147 18,Ix 148 1 146 147,Ro 149 (.load1 .slice (T 148)),Ca 150 23 [T 145,T 149] (some (.tup [.one .slice,.one (.int .i64)])),Mv 144 150,Ex 151 144 0,Ex 152 144 1,As 19 151,As 20 152])
 (.seq (.seq (.draw (some [0,3,7,9,18,19,20]) 45 [Dr (Mv 153 20) 0 [1,2,3,4,5,6,7,8,9,10,11,12,13,14,15,16,17,18,19,20,21,22,23,24,25,26,27,28,29,30,31,32,33,34,35,36,37,38,39,40,41,42,43,44],Dr (Bc 154 .neq 24 153 .i64 0) 1 [2,3,4,5,6,7,8,9,10,11,12,13,14,15,16,17,18,19,20,21,22,23,24,25,26,27,28,29,30,31,32,33,34,35,36,37,38,39,40,41,42,43,44],Dr (Mv 155 154) 2 [3,4,5,6,7,8,9,10,11,12,13,14,15,16,17,18,19,20,21,22,23,24,25,26,27,28,29,30,31,32,33,34,35,36,37,38,39,40,41,42,43,44],⟨Gf 156 155 (.move (T 19)),3,.none,[4,7,8,9,10,11,12,13,14,15,16,17,18,19,20,21,22,23,24,25,26,27,28,29,30,31,32,33,34,35,36,37,38,39,40,41,42,43,44],false,true⟩,⟨Hf 157 155 (.lenS (T 156)),4,.none,[7,8,9,10,11,12,13,14,15,16,17,18,19,20,21,22,23,24,25,26,27,28,29,30,31,32,33,34,35,36,37,38,39,40,41,42,43,44],false,true⟩,⟨Gf 158 155 (.move (T 9)),5,.none,[6,7,8,9,10,11,12,13,14,15,16,17,18,19,20,21,22,23,24,25,26,27,28,29,30,31,32,33,34,35,36,37,38,39,40,41,42,43,44],false,true⟩,⟨Hf 159 155 (.lenS (T 158)),6,.none,[7,8,9,10,11,12,13,14,15,16,17,18,19,20,21,22,23,24,25,26,27,28,29,30,31,32,33,34,35,36,37,38,39,40,41,42,43,44],false,true⟩,⟨Gf 160 155 (.binOp .neq 3 (T 157) (T 159) 3),7,.none,[8,9,10,11,12,13,14,15,16,17,18,19,20,21,22,23,24,25,26,27,28,29,30,31,32,33,34,35,36,37,38,39,40,41,42,43,44],false,true⟩,Dr (Ol 161 (.pick (T 155) (.const (.bool true)) (T 160))) 8 [9,10,11,12,13,14,15,16,17,18,19,20,21,22,23,24,25,26,27,28,29,30,31,32,33,34,35,36,37,38,39,40,41,42,43,44],Dr (Mv 162 161) 9 [10,11,12,13,14,15,16,17,18,19,20,21,22,23,24,25,26,27,28,29,30,31,32,33,34,35,36,37,38,39,40,41,42,43,44],⟨Gf 163 162 (.move (T 9)),10,.none,[12,13,14,15,16,17,18,19,20,21,22,23,24,25,26,27,28,29,30,31,32,33,34,35,36,37,38,39,40,41,42,43,44],false,true⟩,⟨Gf 164 162 (.move (T 18)),11,.none,[12,13,14,15,16,17,18,19,20,21,22,23,24,25,26,27,28,29,30,31,32,33,34,35,36,37,38,39,40,41,42,43,44],false,true⟩,⟨Hf 165 162 (.ixS 1 (T 163) (T 164)),12,.none,[13,14,15,16,17,18,19,20,21,22,23,24,25,26,27,28,29,30,31,32,33,34,35,36,37,38,39,40,41,42,43,44],false,true⟩,⟨Hf 166 162 (.load1 .slice (T 165)),13,.blk (T 165),[14,15,16,17,18,19,20,21,22,23,24,25,26,27,28,29,30,31,32,33,34,35,36,37,38,39,40,41,42,43,44],false,true⟩,⟨Hf 167 162 (.lenS (T 166)),14,.none,[15,16,17,18,19,20,21,22,23,24,25,26,27,28,29,30,31,32,33,34,35,36,37,38,39,40,41,42,43,44],false,true⟩,⟨Gf 168 162 (.binOp .lss 3 (T 167) (Ci 3) 3),15,.none,[16,17,18,19,20,21,22,23,24,25,26,27,28,29,30,31,32,33,34,35,36,37,38,39,40,41,42,43,44],false,true⟩,Dr (Ol 169 (.pick (T 162) (.const (.bool true)) (T 168))) 16 [17,18,19,20,21,22,23,24,25,26,27,28,29,30,31,32,33,34,35,36,37,38,39,40,41,42,43,44],Dr (Mv 170 169) 17 [18,19,20,21,22,23,24,25,26,27,28,29,30,31,32,33,34,35,36,37,38,39,40,41,42,43,44],⟨Gf 171 170 (.move (T 9)),18,.none,[20,21,22,23,29,30,31,32,33,34,35,36,37,38,39,40,41,42,43,44],false,true⟩,⟨Gf 172 170 (.move (T 18)),19,.none,[20,21,22,23,29,30,31,32,33,34,35,36,37,38,39,40,41,42,43,44],false,true⟩,⟨Hf 173 170 (.ixS 1 (T 171) (T 172)),20,.none,[21,22,23,29,30,31,32,33,34,35,36,37,38,39,40,41,42,43,44],false,true⟩,⟨Hf 174 170 (.load1 .slice (T 173)),21,.blk (T 173),[22,23,29,30,31,32,33,34,35,36,37,38,39,40,41,42,43,44],false,true⟩,⟨Hf 175 170 (.ixS 1 (T 174) (Ci 0)),22,.none,[23,29,30,31,32,33,34,35,36,37,38,39,40,41,42,43,44],false,true⟩,⟨Hf 176 170 (.load1 (.int .i64) (T 175)),23,.blk (T 175),[29,30,31,32,33,34,35,36,37,38,39,40,41,42,43,44],false,true⟩,⟨Gf 177 170 (.move (T 7)),24,.none,[26,27,28,29,30,31,32,33,34,35,36,37,38,39,40,41,42,43,44],false,true⟩,⟨Gf 178 170 (.move (T 18)),25,.none,[26,27,28,29,30,31,32,33,34,35,36,37,38,39,40,41,42,43,44],false,true⟩,⟨Hf 179 170 (.ixS 2 (T 177) (T 178)),26,.none,[27,28,29,30,31,32,33,34,35,36,37,38,39,40,41,42,43,44],false,true⟩,⟨Hf 180 170 (.fieldAddr 0 (T 179)),27,.none,[28,29,30,31,32,33,34,35,36,37,38,39,40,41,42,43,44],false,true⟩,⟨Hf 181 170 (.load1 (.int .i64) (T 180)),28,.blk (T 180),[29,30,31,32,33,34,35,36,37,38,39,40,41,42,43,44],false,true⟩,⟨Gf 182 170 (.binOp .neq 3 (T 176) (T 181) 3),29,.none,[30,31,32,33,34,35,36,37,38,39,40,41,42,43,44],false,true⟩,Dr (Ol 183 (.pick (T 170) (.const (.bool true)) (T 182))) 30 [31,32,33,34,35,36,37,38,39,40,41,42,43,44],Dr (Mv 184 183) 31 [32,33,34,35,36,37,38,39,40,41,42,43,44],⟨Gf 185 184 (.move (T 9)),32,.none,[34,35,36,37,43,44],false,true⟩,⟨Gf 186 184 (.move (T 18)),33,.none,[34,35,36,37,43,44],false,true⟩,⟨Hf 187 184 (.ixS 1 (T 185) (T 186)),34,.none,[35,36,37,43,44],false,true⟩,⟨Hf 188 184 (.load1 .slice (T 187)),35,.blk (T 187),[36,37,43,44],false,true⟩,⟨Hf 189 184 (.ixS 1 (T 188) (Ci 1)),36,.none,[37,43,44],false,true⟩,⟨Hf 190 184 (.load1 (.int .i64) (T 189)),37,.blk (T 189),[43,44],false,true⟩,⟨Gf 191 184 (.move (T 7)),38,.none,[40,41,42,43,44],false,true⟩,⟨Gf 192 184 (.move (T 18)),39,.none,[40,41,42,43,44],false,true⟩,⟨Hf 193 184 (.ixS 2 (T 191) (T 192)),40,.none,[41,42,43,44],false,true⟩,⟨Hf 194 184 (.fieldAddr 1 (T 193)),41,.none,[42,43,44],false,true⟩,⟨Hf 195 184 (.load1 (.int .i64) (T 194)),42,.blk (T 194),[43,44],false,true⟩,⟨Gf 196 184 (.binOp .neq 3 (T 190) (T 195) 3),43,.none,[44],false,true⟩,Dr (Ol 197 (.pick (T 184) (.const (.bool true)) (T 196))) 44 []])
 (.cond (T 197) (.seq (Rg [] [Ol 2 (.assign (.const (.bool false)))])
 .ret)
 .skip))
 (.seq (Rg [0,3,7,9,18,19] [Ac 21 0])
 (.block 10 (.loop 39 none (some [0,3,7,9,18,19,21])))))))
 (Rg [0,3,7,9,18] [Mv 142 18,Bc 143 .add 3 142 .i64 1,As 18 143]))⟩),(39,⟨none,some [0,3,7,9,18,19,21],.seq (.seq (Rg [0,3,7,9,18,19,21] [Mv 198 21,Mv 199 19,Ro 200 (.lenS (T 199)),Bt 201 .lss 3 198 200])
 (.cond (T 201) .skip
 (.exit 10 (some [0,3,7,9,18]))))
 (.seq (.block 11 (.seq (Rg [0,3,7,9,18,19,21] [Mv 204 21,Mv 205 18,Bt 206 .eql 3 204 205,Mv 207 206,Gt 208 207 (.move (T 19)),Gt 209 207 (.move (T 21)),Ht 210 207 (.ixS 1 (T 208) (T 209)),Ht 211 207 (.load1 (.int .i64) (T 210)),Gt 212 207 (.binOp .neq 3 (T 211) (Ci 1) 3),Ol 213 (.pick (T 207) (T 212) (.const (.bool false))),Mv 214 213,Gf 215 214 (.move (T 21)),Gf 216 214 (.move (T 18)),Gf 217 214 (.binOp .neq 3 (T 215) (T 216) 3),Gf 218 214 (.move (T 217)),Gt 219 218 (.move (T 19)),Gt 220 218 (.move (T 21)),Ht 221 218 (.ixS 1 (T 219) (T 220)),Ht 222 218 (.load1 (.int .i64) (T 221)),Gt 223 218 (.binOp .neq 3 (T 222) (Ci 0) 3),Gf 224 214 (.pick (T 218) (T 223) (.const (.bool false))),Ol 225 (.pick (T 214) (.const (.bool true)) (T 224))])
 (.cond (T 225) (.seq (Rg [] [Ol 2 (.assign (.const (.bool false)))])
 .ret)
 .skip)))
 (Rg [0,3,7,9,18,19,21] [Mv 202 21,Bc 203 .add 3 202 .i64 1,As 21 203]))⟩)],
 []⟩
theorem r5_ok:resFun (progU ()) hint live 5 Try.f5=some r5:=by kernel_rfl
def r6 : RFun :=
⟨.seq (.reg (some [0,1]) [Ol 4 (.assign (.const (.bool false)))])
 (.seq (.seq (.reg (some [0,1]) [Mv 13 0,Ro 14 (.lenS (.tmp 13)),Bc 15 .gtr 3 14 .i64 100,Mv 16 15,⟨some 17,some (16,false),.op false (.old (.move (.tmp 1)))⟩,⟨some 18,some (16,false),.op false (.lenS (.tmp 17))⟩,⟨some 19,some (16,false),.op false (.old (.binOp .gtr 3 (.tmp 18) (.const (.int .i64 20)) 3))⟩,Ol 20 (.pick (.tmp 16) (.const (.bool true)) (.tmp 19))])
 (.cond (.tmp 20) (.seq (.reg (some []) [Ol 4 (.assign (.const (.bool true)))])
 .ret)
 .skip))
 (.seq (.reg (some [0,1]) [Mv 22 0,Mv 23 1,Ca 24 23 [.tmp 22,.tmp 23] (some (.tup [.one .slice,.one (.int .i64)])),Mv 21 24,Ex 25 21 0,Ex 26 21 1,As 5 25,As 6 26])
 (.seq (.reg (some [0,1,5,6]) [Mv 28 0,Mv 29 1,Ca 30 28 [.tmp 28,.tmp 29] (some (.tup [.one .slice,.one (.int .i64)])),Mv 27 30,Ex 31 27 0,Ex 32 27 1,As 7 31,As 8 32])
 (.seq (.reg (some [0,1,5,6,7,8]) [Mv 34 0,Mv 35 1,Ca 36 29 [.tmp 34,.tmp 35] (some (.tup [.agg [.int .i64,.int .i64,.int .i64],.one (.int .i64)])),Mv 33 36,Ex 37 33 0,Ex 38 33 1,⟨some 9,none,.op true (.new 3 [.int .i64 0,.int .i64 0,.int .i64 0])⟩,⟨none,none,.op false (.store 3 (.tmp 9) (.tmp 37))⟩,As 10 38])
 (.seq (.reg (some [0,1,5,6,7,8,9,10]) [Mv 40 0,Mv 41 1,Ca 42 30 [.tmp 40,.tmp 41] (some (.tup [.agg [.int .i64,.int .i64,.int .i64],.one (.int .i64)])),Mv 39 42,Ex 43 39 0,Ex 44 39 1,⟨some 11,none,.op true (.new 3 [.int .i64 0,.int .i64 0,.int .i64 0])⟩,⟨none,none,.op false (.store 3 (.tmp 11) (.tmp 43))⟩,As 12 44])
 (.seq (.reg (some [5,6,7,8,9,10,11,12]) [Mv 45 5,Mv 46 7,Ca 47 20 [.tmp 45,.tmp 46] (some (.val (.one .bool))),Mv 48 47,⟨some 49,some (48,true),.op false (.old (.move (.tmp 6)))⟩,⟨some 50,some (48,true),.op false (.old (.move (.tmp 8)))⟩,⟨some 51,some (48,true),.op false (.old (.binOp .eql 3 (.tmp 49) (.tmp 50) 3))⟩,Ol 52 (.pick (.tmp 48) (.tmp 51) (.const (.bool false))),Mv 53 52,⟨some 54,some (53,true),.op false (.load 3 [.int .i64,.int .i64,.int .i64] (.tmp 9))⟩,⟨some 55,some (53,true),.op false (.load 3 [.int .i64,.int .i64,.int .i64] (.tmp 11))⟩,⟨some 56,some (53,true),.op false (.old (.binOp .eql 60 (.tmp 54) (.tmp 55) 60))⟩,Ol 57 (.pick (.tmp 53) (.tmp 56) (.const (.bool false))),Mv 58 57,⟨some 59,some (58,true),.op false (.old (.move (.tmp 10)))⟩,⟨some 60,some (58,true),.op false (.old (.move (.tmp 12)))⟩,⟨some 61,some (58,true),.op false (.old (.binOp .eql 3 (.tmp 59) (.tmp 60) 3))⟩,Ol 62 (.pick (.tmp 58) (.tmp 61) (.const (.bool false))),As 4 62])
 .ret)))))),
 [.tmp 4],
 [],
 []⟩
