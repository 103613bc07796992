import Derived.Test.YtmkiclinllifiaaSeat0
import Derived.Test.YtmkiclinllifiaaSymS
set_option linter.unusedSimpArgs false
set_option linter.unusedVariables false
namespace Go.Proofs.Ytmkiclinllifiaa
open Go.Sim
set_option maxRecDepth 100000
def r7 : RFun :=
⟨.seq (.reg (some [0,1,2]) [Ol 6 (.assign (.const (.bool false)))])
 (.seq (.reg (some [0,1,2]) [Ca 22 21 [] (some (.val (.one .bool))),As 7 22])
 (.seq (.seq (.reg (some [0,1,2,7]) [Mv 23 0,Ca 24 22 [.tmp 23] (some (.val (.one (.int .i64)))),Bc 25 .neq 3 24 .i64 0,Mv 26 25,⟨some 27,some (26,false),.op false (.old (.move (.tmp 7)))⟩,⟨some 28,some (26,false),.op false (.old (.unOp .not 4 (.tmp 27)))⟩,Ol 29 (.pick (.tmp 26) (.const (.bool true)) (.tmp 28))])
 (.cond (.tmp 29) (.seq (.reg (some [7]) [Mv 30 7,As 6 30])
 .ret)
 .skip))
 (.seq (.reg (some [0,1,2,7]) [Mv 32 0,Mv 33 1,Mv 34 2,Ca 35 16 [.tmp 32,.tmp 33,.tmp 34] (some (.tup [.one .slice,.one (.int .i64)])),Mv 31 35,Ex 36 31 0,Ex 37 31 1,As 8 36,As 9 37])
 (.seq (.reg (some [0,1,2,7,8,9]) [Mv 39 0,Mv 40 2,Mv 41 1,Ca 42 16 [.tmp 39,.tmp 40,.tmp 41] (some (.tup [.one .slice,.one (.int .i64)])),Mv 38 42,Ex 43 38 0,Ex 44 38 1,As 10 43,As 11 44])
 (.seq (.reg (some [0,1,2,7,8,9,10,11]) [Mv 46 0,Ca 47 10 [.tmp 46] (some (.tup [.one .slice,.one (.int .i64),.one (.int .i64)])),Mv 45 47,Ex 48 45 0,Ex 49 45 1,Ex 50 45 2,As 12 48,As 13 49,As 14 50])
 (.seq (.seq (.reg (some [0,1,2,7,8,9,10,11,12,14]) [Mv 51 9,Mv 52 11,Bt 53 .neq 24 51 52,Mv 54 53,⟨some 55,some (54,false),.op false (.old (.move (.tmp 14)))⟩,⟨some 56,some (54,false),.op false (.old (.binOp .neq 24 (.tmp 55) (.const (.int .i64 0)) 24))⟩,Ol 57 (.pick (.tmp 54) (.const (.bool true)) (.tmp 56)),Mv 58 57,⟨some 59,some (58,false),.op false (.old (.move (.tmp 8)))⟩,⟨some 60,some (58,false),.op false (.lenS (.tmp 59))⟩,⟨some 61,some (58,false),.op false (.old (.move (.tmp 10)))⟩,⟨some 62,some (58,false),.op false (.lenS (.tmp 61))⟩,⟨some 63,some (58,false),.op false (.old (.binOp .neq 3 (.tmp 60) (.tmp 62) 3))⟩,Ol 64 (.pick (.tmp 58) (.const (.bool true)) (.tmp 63))])
 (.cond (.tmp 64) (.seq (.reg (some []) [Ol 6 (.assign (.const (.bool false)))])
 .ret)
 .skip))
 (.seq (.seq (.reg (some [0,1,2,7,8,9,10,12]) [Mv 65 9,Bc 66 .eql 24 65 .i64 2])
 (.cond (.tmp 66) (.seq (.reg (some [0,1,2,7]) [Mv 67 7,Mv 68 67,⟨some 69,some (68,true),.op false (.old (.move (.tmp 0)))⟩,⟨some 70,some (68,true),.op false (.old (.move (.tmp 1)))⟩,⟨some 71,some (68,true),.call (.func 27) [.tmp 69,.tmp 70] (some (.val (.one .bool)))⟩,⟨some 72,some (68,true),.op false (.old (.move (.tmp 71)))⟩,⟨some 73,some (72,true),.op false (.old (.move (.tmp 0)))⟩,⟨some 74,some (72,true),.op false (.old (.move (.tmp 2)))⟩,⟨some 75,some (72,true),.call (.func 27) [.tmp 73,.tmp 74] (some (.val (.one .bool)))⟩,⟨some 76,some (68,true),.op false (.old (.pick (.tmp 72) (.tmp 75) (.const (.bool false))))⟩,⟨some 77,some (68,true),.op false (.old (.unOp .not 4 (.tmp 76)))⟩,Ol 78 (.pick (.tmp 68) (.tmp 77) (.const (.bool false))),As 6 78])
 .ret)
 .skip))
 (.seq (.reg (some [0,1,2,7,8,9,10,12]) [Ro 79 (.mkSlice 1 [.int .i64 0] (.const (.int .i64 8)) (.const (.int .i64 8))),As 15 79])
 (.seq (.seq (.reg (some [0,1,2,7,8,9,10,12,15]) [Ac 16 0])
 (.block 0 (.loop 13 none (some [0,1,2,7,8,9,10,12,15,16]))))
 (.seq (.seq (.reg (some [0,1,2,7,8,9,10,12,15]) [Ac 17 0])
 (.block 2 (.loop 17 (some [0,1,2,7,8,9,10,12,15,17]) (some [0,1,2,7,8,9,10,12,15,17]))))
 (.seq (.seq (.draw (some [1,2,7,8,9,10,12,15]) 32 [Dr (Mv 141 1) 0 [1,2,3,4,5,6,7,8,9,10,11,12,13,14,15,16,17,18,19,20,21,22,23,24,25,26,27,28,29,30,31],Dr (Bc 142 .lss 3 141 .i64 0) 1 [2,3,4,5,6,7,8,9,10,11,12,13,14,15,16,17,18,19,20,21,22,23,24,25,26,27,28,29,30,31],Dr (Mv 143 142) 2 [3,4,5,6,7,8,9,10,11,12,13,14,15,16,17,18,19,20,21,22,23,24,25,26,27,28,29,30,31],⟨⟨some 144,some (143,false),.op false (.old (.move (.tmp 2)))⟩,3,.none,[4,5,6,7,8,9,10,11,12,13,14,15,16,17,18,19,20,21,22,23,24,25,26,27,28,29,30,31],false,true⟩,⟨⟨some 145,some (143,false),.op false (.old (.binOp .lss 3 (.tmp 144) (.const (.int .i64 0)) 3))⟩,4,.none,[5,6,7,8,9,10,11,12,13,14,15,16,17,18,19,20,21,22,23,24,25,26,27,28,29,30,31],false,true⟩,Dr (Ol 146 (.pick (.tmp 143) (.const (.bool true)) (.tmp 145))) 5 [6,7,8,9,10,11,12,13,14,15,16,17,18,19,20,21,22,23,24,25,26,27,28,29,30,31],Dr (Mv 147 146) 6 [7,8,9,10,11,12,13,14,15,16,17,18,19,20,21,22,23,24,25,26,27,28,29,30,31],⟨⟨some 148,some (147,false),.op false (.old (.move (.tmp 1)))⟩,7,.none,[10,11,12,13,14,15,16,17,18,19,20,21,22,23,24,25,26,27,28,29,30,31],false,true⟩,⟨⟨some 149,some (147,false),.op false (.old (.move (.tmp 15)))⟩,8,.none,[9,10,11,12,13,14,15,16,17,18,19,20,21,22,23,24,25,26,27,28,29,30,31],false,true⟩,⟨⟨some 150,some (147,false),.op false (.lenS (.tmp 149))⟩,9,.none,[10,11,12,13,14,15,16,17,18,19,20,21,22,23,24,25,26,27,28,29,30,31],false,true⟩,⟨⟨some 151,some (147,false),.op false (.old (.binOp .geq 3 (.tmp 148) (.tmp 150) 3))⟩,10,.none,[11,12,13,14,15,16,17,18,19,20,21,22,23,24,25,26,27,28,29,30,31],false,true⟩,Dr (Ol 152 (.pick (.tmp 147) (.const (.bool true)) (.tmp 151))) 11 [12,13,14,15,16,17,18,19,20,21,22,23,24,25,26,27,28,29,30,31],Dr (Mv 153 152) 12 [13,14,15,16,17,18,19,20,21,22,23,24,25,26,27,28,29,30,31],⟨⟨some 154,some (153,false),.op false (.old (.move (.tmp 2)))⟩,13,.none,[16,17,18,19,20,21,22,23,24,25,26,27,28,29,30,31],false,true⟩,⟨⟨some 155,some (153,false),.op false (.old (.move (.tmp 15)))⟩,14,.none,[15,16,17,18,19,20,21,22,23,24,25,26,27,28,29,30,31],false,true⟩,⟨⟨some 156,some (153,false),.op false (.lenS (.tmp 155))⟩,15,.none,[16,17,18,19,20,21,22,23,24,25,26,27,28,29,30,31],false,true⟩,⟨⟨some 157,some (153,false),.op false (.old (.binOp .geq 3 (.tmp 154) (.tmp 156) 3))⟩,16,.none,[17,18,19,20,21,22,23,24,25,26,27,28,29,30,31],false,true⟩,Dr (Ol 158 (.pick (.tmp 153) (.const (.bool true)) (.tmp 157))) 17 [18,19,20,21,22,23,24,25,26,27,28,29,30,31],Dr (Mv 159 158) 18 [19,20,21,22,23,24,25,26,27,28,29,30,31],⟨⟨some 160,some (159,false),.op false (.old (.move (.tmp 9)))⟩,19,.none,[20,30,31],false,true⟩,⟨⟨some 161,some (159,false),.op false (.old (.binOp .eql 24 (.tmp 160) (.const (.int .i64 0)) 24))⟩,20,.none,[30,31],false,true⟩,⟨⟨some 162,some (159,false),.op false (.old (.move (.tmp 15)))⟩,21,.none,[23,24,29,30,31],false,true⟩,⟨⟨some 163,some (159,false),.op false (.old (.move (.tmp 1)))⟩,22,.none,[23,24,29,30,31],false,true⟩,⟨⟨some 164,some (159,false),.op false (.ixS 1 (.tmp 162) (.tmp 163))⟩,23,.none,[24,29,30,31],false,true⟩,⟨⟨some 165,some (159,false),.op false (.load1 (.int .i64) (.tmp 164))⟩,24,.blk (.tmp 164),[29,30,31],false,true⟩,⟨⟨some 166,some (159,false),.op false (.old (.move (.tmp 15)))⟩,25,.none,[27,28,29,30,31],false,true⟩,⟨⟨some 167,some (159,false),.op false (.old (.move (.tmp 2)))⟩,26,.none,[27,28,29,30,31],false,true⟩,⟨⟨some 168,some (159,false),.op false (.ixS 1 (.tmp 166) (.tmp 167))⟩,27,.none,[28,29,30,31],false,true⟩,⟨⟨some 169,some (159,false),.op false (.load1 (.int .i64) (.tmp 168))⟩,28,.blk (.tmp 168),[29,30,31],false,true⟩,⟨⟨some 170,some (159,false),.op false (.old (.binOp .eql 3 (.tmp 165) (.tmp 169) 3))⟩,29,.none,[30,31],false,true⟩,⟨⟨some 171,some (159,false),.op false (.old (.binOp .neq 4 (.tmp 161) (.tmp 170) 4))⟩,30,.none,[31],false,true⟩,Dr (Ol 172 (.pick (.tmp 159) (.const (.bool true)) (.tmp 171))) 31 []])
 (.cond (.tmp 172) (.seq (.reg (some []) [Ol 6 (.assign (.const (.bool false)))])
 .ret)
 .skip))
 (.seq (.seq (.reg (some [1,2,7,8,9,10,12]) [Mv 173 9,Bc 174 .neq 24 173 .i64 0])
 (.cond (.tmp 174) (.seq (.reg (some [7,9]) [Mv 175 7,Mv 176 175,⟨some 177,some (176,true),.op false (.old (.move (.tmp 9)))⟩,⟨some 178,some (176,true),.op false (.old (.binOp .eql 24 (.tmp 177) (.const (.int .i64 6)) 24))⟩,Ol 179 (.pick (.tmp 176) (.tmp 178) (.const (.bool false))),As 6 179])
 .ret)
 .skip))
 (.seq (.seq (.reg (some [1,2,7,8,10,12]) [Mv 180 8,Ro 181 (.lenS (.tmp 180)),Bc 182 .eql 3 181 .i64 0,Mv 183 182,⟨some 184,some (183,false),.op false (.old (.move (.tmp 8)))⟩,⟨some 185,some (183,false),.op false (.ixS 1 (.tmp 184) (.const (.int .i64 0)))⟩,⟨some 186,some (183,false),.op false (.load1 (.int .i64) (.tmp 185))⟩,⟨some 187,some (183,false),.op false (.old (.move (.tmp 1)))⟩,⟨some 188,some (183,false),.op false (.old (.binOp .neq 3 (.tmp 186) (.tmp 187) 3))⟩,Ol 189 (.pick (.tmp 183) (.const (.bool true)) (.tmp 188)),Mv 190 189,⟨some 191,some (190,false),.op false (.old (.move (.tmp 8)))⟩,⟨some 192,some (190,false),.op false (.old (.move (.tmp 8)))⟩,⟨some 193,some (190,false),.op false (.lenS (.tmp 192))⟩,⟨some 194,some (190,false),.op false (.old (.binOp .sub 3 (.tmp 193) (.const (.int .i64 1)) 3))⟩,⟨some 195,some (190,false),.op false (.ixS 1 (.tmp 191) (.tmp 194))⟩,⟨some 196,some (190,false),.op false (.load1 (.int .i64) (.tmp 195))⟩,⟨some 197,some (190,false),.op false (.old (.move (.tmp 2)))⟩,⟨some 198,some (190,false),.op false (.old (.binOp .neq 3 (.tmp 196) (.tmp 197) 3))⟩,Ol 199 (.pick (.tmp 190) (.const (.bool true)) (.tmp 198)),Mv 200 199,⟨some 201,some (200,false),.op false (.old (.move (.tmp 8)))⟩,⟨some 202,some (200,false),.op false (.lenS (.tmp 201))⟩,⟨some 203,some (200,false),.op false (.old (.binOp .gtr 3 (.tmp 202) (.const (.int .i64 8)) 3))⟩,Ol 204 (.pick (.tmp 200) (.const (.bool true)) (.tmp 203)),Mv 205 204,⟨some 206,some (205,false),.op false (.old (.move (.tmp 8)))⟩,⟨some 207,some (205,false),.call (.func 31) [.tmp 206] (some (.val (.one .bool)))⟩,⟨some 208,some (205,false),.op false (.old (.unOp .not 4 (.tmp 207)))⟩,Ol 209 (.pick (.tmp 205) (.const (.bool true)) (.tmp 208))])
 (.cond (.tmp 209) (.seq (.reg (some []) [Ol 6 (.assign (.const (.bool false)))])
 .ret)
 .skip))
 (.seq (.seq (.reg (some [7,8,10,12]) [Ac 19 0])
 (.block 6 (.loop 31 (some [7,8,10,12,19]) (some [7,8,10,12,19]))))
 (.seq (.reg (some [7]) [Mv 268 7,As 6 268])
 .ret))))))))))))))),
 [.tmp 6],
 [(13,⟨none,some [0,1,2,7,8,9,10,12,15,16],.seq (.seq (.reg (some [0,1,2,7,8,9,10,12,15,16]) [Mv 80 16,Mv 81 15,Ro 82 (.lenS (.tmp 81)),Bt 83 .lss 3 80 82])
 (.cond (.tmp 83) .skip
 (.exit 0 (some [0,1,2,7,8,9,10,12,15]))))
 (.seq (.block 1 (.reg (some [0,1,2,7,8,9,10,12,15,16]) [Mv 86 15,Mv 87 16,Mv 88 16,Ix 89 1 86 87,⟨none,none,.op false (.store 1 (.tmp 89) (.tmp 88))⟩]))
 (.reg (some [0,1,2,7,8,9,10,12,15,16]) [Mv 84 16,Bc 85 .add 3 84 .i64 1,As 16 85]))⟩),(17,⟨some [0,1,2,7,8,9,10,12,15,17],some [0,1,2,7,8,9,10,12,15,17],.seq (.seq (.reg (some [0,1,2,7,8,9,10,12,15,17]) [Mv 90 17,Mv 91 15,Ro 92 (.lenS (.tmp 91)),Bt 93 .lss 3 90 92])
 (.cond (.tmp 93) .skip
 (.exit 2 (some [1,2,7,8,9,10,12,15]))))
 (.seq (.block 3 (.seq (.reg (some [0,1,2,7,8,9,10,12,15,17]) [Ac 18 0])
 (.block 4 (.loop 20 (some [0,1,2,7,8,9,10,12,15,17,18]) (some [0,1,2,7,8,9,10,12,15,17,18])))))
 (.reg (some [0,1,2,7,8,9,10,12,15,17]) [Mv 94 17,Bc 95 .add 3 94 .i64 1,As 17 95]))⟩),(20,⟨some [0,1,2,7,8,9,10,12,15,17,18],some [0,1,2,7,8,9,10,12,15,17,18],.seq (.seq (.reg (some [0,1,2,7,8,9,10,12,15,17,18]) [Mv 96 18,Mv 97 0,Ro 98 (.lenS (.tmp 97)),Bt 99 .lss 3 96 98])
 (.cond (.tmp 99) .skip
 (.exit 4 (some [0,1,2,7,8,9,10,12,15,17]))))
 (.seq (.block 5 (.seq (.draw (some [0,1,2,7,8,9,10,12,15,17,18]) 25 [Dr (Mv 102 15) 0 [23,24],Dr (Mv 103 0) 1 [3,4,5,23,24],Dr (Mv 104 18) 2 [3,4,5,23,24],Dr (Ix 105 6 103 104) 3 [4,5,23,24],Dr (Fa 106 1 105) 4 [5,23,24],Db (L1 107 106) 5 106 [23,24],Dr (Mv 108 15) 6 [12,13,22,23,24],Dr (Mv 109 0) 7 [9,10,11,12,13,22,23,24],Dr (Mv 110 18) 8 [9,10,11,12,13,22,23,24],Dr (Ix 111 6 109 110) 9 [10,11,12,13,22,23,24],Dr (Fa 112 0 111) 10 [11,12,13,22,23,24],Db (L1 113 112) 11 112 [12,13,22,23,24],Dr (Ix 114 1 108 113) 12 [13,22,23,24],Db (L1 115 114) 13 114 [22,23,24],Dr (Mv 116 15) 14 [20,21,22,23,24],Dr (Mv 117 0) 15 [17,18,19,20,21,22,23,24],Dr (Mv 118 18) 16 [17,18,19,20,21,22,23,24],Dr (Ix 119 6 117 118) 17 [18,19,20,21,22,23,24],Dr (Fa 120 1 119) 18 [19,20,21,22,23,24],Db (L1 121 120) 19 120 [20,21,22,23,24],Dr (Ix 122 1 116 121) 20 [21,22,23,24],Db (L1 123 122) 21 122 [22,23,24],⟨⟨some 124,none,.op false (.old (.call ⟨.builtin .min,#[.tmp 115,.tmp 123],#[3,3]⟩))⟩,22,.none,[23,24],false,true⟩,Dr (Ix 125 1 102 107) 23 [24],⟨⟨none,none,.op false (.store 1 (.tmp 125) (.tmp 124))⟩,24,.blk (.tmp 125),[],true,true⟩])
 (.draw (some [0,1,2,7,8,9,10,12,15,17,18]) 16 [Dr (Mv 126 15) 0 [14,15],Dr (Mv 127 0) 1 [3,4,5,14,15],Dr (Mv 128 18) 2 [3,4,5,14,15],Dr (Ix 129 6 127 128) 3 [4,5,14,15],Dr (Fa 130 0 129) 4 [5,14,15],Db (L1 131 130) 5 130 [14,15],Dr (Mv 132 15) 6 [12,13,14,15],Dr (Mv 133 0) 7 [9,10,11,12,13,14,15],Dr (Mv 134 18) 8 [9,10,11,12,13,14,15],Dr (Ix 135 6 133 134) 9 [10,11,12,13,14,15],Dr (Fa 136 1 135) 10 [11,12,13,14,15],Db (L1 137 136) 11 136 [12,13,14,15],Dr (Ix 138 1 132 137) 12 [13,14,15],Db (L1 139 138) 13 138 [14,15],Dr (Ix 140 1 126 131) 14 [15],⟨⟨none,none,.op false (.store 1 (.tmp 140) (.tmp 139))⟩,15,.blk (.tmp 140),[],true,true⟩])))
 (.reg (some [0,1,2,7,8,9,10,12,15,17,18]) [Mv 100 18,Bc 101 .add 3 100 .i64 1,As 18 101]))⟩),(31,⟨some [7,8,10,12,19],some [7,8,10,12,19],.seq (.seq (.reg (some [7,8,10,12,19]) [Mv 210 19,Mv 211 8,Ro 212 (.lenS (.tmp 211)),Bt 213 .lss 3 210 212])
 (.cond (.tmp 213) .skip
 (.exit 6 (some [7]))))
 (.seq (.block 7 (.seq (.seq (.draw (some [7,8,10,12,19]) 13 [Dr (Mv 216 8) 0 [2,3,12],Dr (Mv 217 19) 1 [2,3,12],Dr (Ix 218 1 216 217) 2 [3,12],Db (L1 219 218) 3 218 [12],Dr (Mv 220 10) 4 [10,11,12],Dr (Mv 221 8) 5 [6,7,9,10,11,12],Dr (Ro 222 (.lenS (.tmp 221))) 6 [7,9,10,11,12],Dr (Bc 223 .sub 3 222 .i64 1) 7 [9,10,11,12],Dr (Mv 224 19) 8 [9,10,11,12],Dr (Bt 225 .sub 3 223 224) 9 [10,11,12],Dr (Ix 226 1 220 225) 10 [11,12],Db (L1 227 226) 11 226 [12],Dr (Bt 228 .neq 3 219 227) 12 []])
 (.cond (.tmp 228) (.seq (.reg (some []) [Ol 6 (.assign (.const (.bool false)))])
 .ret)
 .skip))
 (.seq (.seq (.reg (some [7,8,10,12,19]) [Mv 229 19,Bc 230 .eql 3 229 .i64 0])
 (.cond (.tmp 230) (.exit 7 (some [7,8,10,12,19]))
 .skip))
 (.seq (.reg (some [7,8,10,12,19]) [Ol 20 (.assign (.const (.bool false)))])
 (.seq (.seq (.reg (some [7,8,10,12,19,20]) [Ac 21 0])
 (.block 8 (.loop 38 (some [7,8,10,12,19,20,21]) (some [7,8,10,12,19,20,21]))))
 (.seq (.reg (some [7,8,10,12,19,20]) [Mv 266 20,Ol 267 (.unOp .not 4 (.tmp 266))])
 (.cond (.tmp 267) (.seq (.reg (some []) [Ol 6 (.assign (.const (.bool false)))])
 .ret)
 .skip)))))))
 (.reg (some [7,8,10,12,19]) [Mv 214 19,Bc 215 .add 3 214 .i64 1,As 19 215]))⟩),(38,⟨some [7,8,10,12,19,20,21],some [7,8,10,12,19,20,21],.seq (.seq (.reg (some [7,8,10,12,19,20,21]) [Mv 231 21,Mv 232 12,Ro 233 (.lenS (.tmp 232)),Bt 234 .lss 3 231 233])
 (.cond (.tmp 234) .skip
 (.exit 8 (some [7,8,10,12,19,20]))))
 (.seq (.block 9 (.draw (some [7,8,10,12,19,20,21]) 30 [Dr (Mv 237 20) 0 [1,2,3,4,5,6,7,8,9,10,11,12,13,14,15,16,17,18,19,20,21,22,23,24,25,26,27,28,29],Dr (Mv 238 237) 1 [2,3,4,5,6,7,8,9,10,11,12,13,14,15,16,17,18,19,20,21,22,23,24,25,26,27,28,29],⟨⟨some 239,some (238,false),.op false (.old (.move (.tmp 12)))⟩,2,.none,[4,5,27,28,29],false,true⟩,⟨⟨some 240,some (238,false),.op false (.old (.move (.tmp 21)))⟩,3,.none,[4,5,27,28,29],false,true⟩,⟨⟨some 241,some (238,false),.op false (.ixS 2 (.tmp 239) (.tmp 240))⟩,4,.none,[5,27,28,29],false,true⟩,⟨⟨some 242,some (238,false),.op false (.load 2 [.int .i64,.int .i64] (.tmp 241))⟩,5,.blk (.tmp 241),[27,28,29],false,true⟩,⟨⟨some 243,some (238,false),.op false (.old (.move (.tmp 8)))⟩,6,.none,[9,10,15,26,27,28,29],false,true⟩,⟨⟨some 244,some (238,false),.op false (.old (.move (.tmp 19)))⟩,7,.none,[8,9,10,15,26,27,28,29],false,true⟩,⟨⟨some 245,some (238,false),.op false (.old (.binOp .sub 3 (.tmp 244) (.const (.int .i64 1)) 3))⟩,8,.none,[9,10,15,26,27,28,29],false,true⟩,⟨⟨some 246,some (238,false),.op false (.ixS 1 (.tmp 243) (.tmp 245))⟩,9,.none,[10,15,26,27,28,29],false,true⟩,⟨⟨some 247,some (238,false),.op false (.load1 (.int .i64) (.tmp 246))⟩,10,.blk (.tmp 246),[15,26,27,28,29],false,true⟩,⟨⟨some 248,some (238,false),.op false (.old (.move (.tmp 8)))⟩,11,.none,[13,14,15,26,27,28,29],false,true⟩,⟨⟨some 249,some (238,false),.op false (.old (.move (.tmp 19)))⟩,12,.none,[13,14,15,26,27,28,29],false,true⟩,⟨⟨some 250,some (238,false),.op false (.ixS 1 (.tmp 248) (.tmp 249))⟩,13,.none,[14,15,26,27,28,29],false,true⟩,⟨⟨some 251,some (238,false),.op false (.load1 (.int .i64) (.tmp 250))⟩,14,.blk (.tmp 250),[15,26,27,28,29],false,true⟩,⟨⟨some 252,some (238,false),.op false (.old (.call ⟨.builtin .min,#[.tmp 247,.tmp 251],#[3,3]⟩))⟩,15,.none,[26,27,28,29],false,true⟩,⟨⟨some 253,some (238,false),.op false (.old (.move (.tmp 8)))⟩,16,.none,[19,20,25,26,27,28,29],false,true⟩,⟨⟨some 254,some (238,false),.op false (.old (.move (.tmp 19)))⟩,17,.none,[18,19,20,25,26,27,28,29],false,true⟩,⟨⟨some 255,some (238,false),.op false (.old (.binOp .sub 3 (.tmp 254) (.const (.int .i64 1)) 3))⟩,18,.none,[19,20,25,26,27,28,29],false,true⟩,⟨⟨some 256,some (238,false),.op false (.ixS 1 (.tmp 253) (.tmp 255))⟩,19,.none,[20,25,26,27,28,29],false,true⟩,⟨⟨some 257,some (238,false),.op false (.load1 (.int .i64) (.tmp 256))⟩,20,.blk (.tmp 256),[25,26,27,28,29],false,true⟩,⟨⟨some 258,some (238,false),.op false (.old (.move (.tmp 8)))⟩,21,.none,[23,24,25,26,27,28,29],false,true⟩,⟨⟨some 259,some (238,false),.op false (.old (.move (.tmp 19)))⟩,22,.none,[23,24,25,26,27,28,29],false,true⟩,⟨⟨some 260,some (238,false),.op false (.ixS 1 (.tmp 258) (.tmp 259))⟩,23,.none,[24,25,26,27,28,29],false,true⟩,⟨⟨some 261,some (238,false),.op false (.load1 (.int .i64) (.tmp 260))⟩,24,.blk (.tmp 260),[25,26,27,28,29],false,true⟩,⟨⟨some 262,some (238,false),.op false (.old (.call ⟨.builtin .max,#[.tmp 257,.tmp 261],#[3,3]⟩))⟩,25,.none,[26,27,28,29],false,true⟩,⟨⟨some 263,some (238,false),.op false (.build [.int .i64 0,.int .i64 0] [(0,1,(.tmp 252)),(1,1,(.tmp 262))])⟩,26,.none,[27,28,29],false,true⟩,⟨⟨some 264,some (238,false),.op false (.old (.binOp .eql 54 (.tmp 242) (.tmp 263) 54))⟩,27,.none,[28,29],false,true⟩,Dr (Ol 265 (.pick (.tmp 238) (.const (.bool true)) (.tmp 264))) 28 [29],Dr (As 20 265) 29 []]))
 (.reg (some [7,8,10,12,19,20,21]) [Mv 235 21,Bc 236 .add 3 235 .i64 1,As 21 236]))⟩)],
 []⟩
def r8 : RFun :=
⟨.seq (.reg (some [0,1]) [Ol 4 (.assign (.const (.bool false)))])
 (.seq (.reg (some [0,1]) [Ca 10 21 [] (some (.val (.one .bool))),As 5 10])
 (.seq (.seq (.reg (some [0,1,5]) [Mv 11 0,Ca 12 22 [.tmp 11] (some (.val (.one (.int .i64)))),Bc 13 .neq 3 12 .i64 0,Mv 14 13,⟨some 15,some (14,false),.op false (.old (.move (.tmp 1)))⟩,⟨some 16,some (14,false),.op false (.lenS (.tmp 15))⟩,⟨some 17,some (14,false),.op false (.old (.binOp .gtr 3 (.tmp 16) (.const (.int .i64 20)) 3))⟩,Ol 18 (.pick (.tmp 14) (.const (.bool true)) (.tmp 17)),Mv 19 18,⟨some 20,some (19,false),.op false (.old (.move (.tmp 5)))⟩,⟨some 21,some (19,false),.op false (.old (.unOp .not 4 (.tmp 20)))⟩,Ol 22 (.pick (.tmp 19) (.const (.bool true)) (.tmp 21))])
 (.cond (.tmp 22) (.seq (.reg (some [5]) [Mv 23 5,As 4 23])
 .ret)
 .skip))
 (.seq (.reg (some [0,1,5]) [Mv 25 0,Mv 26 1,Ca 27 32 [.tmp 25,.tmp 26] (some (.tup [.agg [.int .i64,.int .i64,.int .i64],.one (.int .i64)])),Mv 24 27,Ex 28 24 0,Ex 29 24 1,⟨some 6,none,.op true (.new 3 [.int .i64 0,.int .i64 0,.int .i64 0])⟩,⟨none,none,.op false (.store 3 (.tmp 6) (.tmp 28))⟩,As 7 29])
 (.seq (.reg (some [0,1,5,6,7]) [Mv 31 0,Mv 32 1,Ca 33 29 [.tmp 31,.tmp 32] (some (.tup [.agg [.int .i64,.int .i64,.int .i64],.one (.int .i64)])),Mv 30 33,Ex 34 30 0,Ex 35 30 1,⟨some 8,none,.op true (.new 3 [.int .i64 0,.int .i64 0,.int .i64 0])⟩,⟨none,none,.op false (.store 3 (.tmp 8) (.tmp 34))⟩,As 9 35])
 (.seq (.seq (.reg (some [5,6,7,8,9]) [Mv 36 7,Bc 37 .eql 24 36 .i64 2,Mv 38 9,Bc 39 .eql 24 38 .i64 2,Bt 40 .neq 4 37 39,Mv 41 40,⟨some 42,some (41,false),.op false (.old (.move (.tmp 7)))⟩,⟨some 43,some (41,false),.op false (.old (.binOp .eql 24 (.tmp 42) (.const (.int .i64 6)) 24))⟩,⟨some 44,some (41,false),.op false (.old (.move (.tmp 9)))⟩,⟨some 45,some (41,false),.op false (.old (.binOp .eql 24 (.tmp 44) (.const (.int .i64 6)) 24))⟩,⟨some 46,some (41,false),.op false (.old (.binOp .neq 4 (.tmp 43) (.tmp 45) 4))⟩,Ol 47 (.pick (.tmp 41) (.const (.bool true)) (.tmp 46))])
 (.cond (.tmp 47) (.seq (.reg (some []) [Ol 4 (.assign (.const (.bool false)))])
 .ret)
 .skip))
 (.seq (.seq (.reg (some [5,6,7,8,9]) [Mv 48 7,Bc 49 .neq 24 48 .i64 0,Mv 50 49,⟨some 51,some (50,false),.op false (.old (.move (.tmp 9)))⟩,⟨some 52,some (50,false),.op false (.old (.binOp .neq 24 (.tmp 51) (.const (.int .i64 0)) 24))⟩,Ol 53 (.pick (.tmp 50) (.const (.bool true)) (.tmp 52))])
 (.cond (.tmp 53) (.seq (.reg (some [5]) [Mv 54 5,As 4 54])
 .ret)
 .skip))
 (.seq (.reg (some [5,6,8]) [Mv 55 5,Mv 56 55,⟨some 57,some (56,true),.op false (.load 3 [.int .i64,.int .i64,.int .i64] (.tmp 6))⟩,⟨some 58,some (56,true),.op false (.load 3 [.int .i64,.int .i64,.int .i64] (.tmp 8))⟩,⟨some 59,some (56,true),.op false (.old (.binOp .eql 60 (.tmp 57) (.tmp 58) 60))⟩,Ol 60 (.pick (.tmp 56) (.tmp 59) (.const (.bool false))),Mv 61 60,⟨some 62,some (61,true),.op false (.load 3 [.int .i64,.int .i64,.int .i64] (.tmp 6))⟩,⟨some 63,some (61,true),.call (.func 33) [.tmp 62] (some (.val (.one (.int .i64))))⟩,⟨some 64,some (61,true),.op false (.old (.binOp .eql 3 (.tmp 63) (.const (.int .i64 0)) 3))⟩,Ol 65 (.pick (.tmp 61) (.tmp 64) (.const (.bool false))),As 4 65])
 .ret))))))),
 [.tmp 4],
 [],
 []⟩
def r9 : RFun :=
⟨.seq (.reg (some []) [Ol 0 (.assign (.const (.bool false)))])
 (.seq (.reg (some []) [Ro 37 (.build [.int .i64 0,.int .i64 0,.int .i64 0] [(0,1,(.const (.int .i64 1))),(2,1,(.const (.int .i64 1)))]),⟨some 1,none,.op true (.new 3 [.int .i64 0,.int .i64 0,.int .i64 0])⟩,⟨none,none,.op false (.store 3 (.tmp 1) (.tmp 37))⟩])
 (.seq (.reg (some [1]) [Ro 39 (.mkSlice 6 [.int .i64 0,.int .i64 0,.int .i64 0,.int .i64 0,.int .i64 0,.int .i64 0] (.const (.int .i64 65)) (.const (.int .i64 65))),Ca 40 10 [.tmp 39] (some (.tup [.one .slice,.one (.int .i64),.one (.int .i64)])),Mv 38 40,Ex 41 38 0,Ex 42 38 1,Ex 43 38 2,As 2 41,As 3 42,As 4 43])
 (.seq (.reg (some [1,4]) [Ro 45 (.load 3 [.int .i64,.int .i64,.int .i64] (.tmp 1)),Ro 46 (.build [.int .i64 0,.int .i64 0,.int .i64 0,.int .i64 0,.int .i64 0,.int .i64 0] [(0,1,(.const (.int .i64 2))),(1,1,(.const (.int .i64 1))),(2,3,(.tmp 45))]),Ro 47 (.buildSlice 6 1 [.int .i64 0,.int .i64 0,.int .i64 0,.int .i64 0,.int .i64 0,.int .i64 0] [(0,6,(.tmp 46))]),Ca 48 12 [.tmp 47] (some (.tup [.one .slice,.one (.int .i64)])),Mv 44 48,Ex 49 44 0,Ex 50 44 1,As 5 49,As 6 50])
 (.seq (.reg (some [1,4,6]) [Ro 51 (.load 3 [.int .i64,.int .i64,.int .i64] (.tmp 1)),Ro 52 (.build [.int .i64 0,.int .i64 0,.int .i64 0,.int .i64 0,.int .i64 0,.int .i64 0] [(0,1,(.const (.int .i64 0))),(1,1,(.const (.int .i64 1))),(2,3,(.tmp 51))]),Ro 53 (.load 3 [.int .i64,.int .i64,.int .i64] (.tmp 1)),Ro 54 (.build [.int .i64 0,.int .i64 0,.int .i64 0,.int .i64 0,.int .i64 0,.int .i64 0] [(0,1,(.const (.int .i64 0))),(1,1,(.const (.int .i64 1))),(2,3,(.tmp 53))]),Ro 55 (.buildSlice 6 2 [.int .i64 0,.int .i64 0,.int .i64 0,.int .i64 0,.int .i64 0,.int .i64 0,.int .i64 0,.int .i64 0,.int .i64 0,.int .i64 0,.int .i64 0,.int .i64 0] [(0,6,(.tmp 52)),(6,6,(.tmp 54))]),As 7 55])
 (.seq (.reg (some [1,4,6,7]) [Mv 57 7,Ca 58 14 [.tmp 57] (some (.tup [.one .slice,.one (.int .i64)])),Mv 56 58,Ex 59 56 0,Ex 60 56 1,As 8 59,As 9 60])
 (.seq (.reg (some [1,4,6,9]) [Ro 61 (.load 3 [.int .i64,.int .i64,.int .i64] (.tmp 1)),Ro 62 (.build [.int .i64 0,.int .i64 0,.int .i64 0,.int .i64 0,.int .i64 0,.int .i64 0] [(0,1,(.const (.int .i64 5))),(1,1,(.const (.int .i64 7))),(2,3,(.tmp 61))]),Ro 63 (.load 3 [.int .i64,.int .i64,.int .i64] (.tmp 1)),Ro 64 (.build [.int .i64 0,.int .i64 0,.int .i64 0,.int .i64 0,.int .i64 0,.int .i64 0] [(0,1,(.const (.int .i64 1))),(1,1,(.const (.int .i64 3))),(2,3,(.tmp 63))]),Ro 65 (.buildSlice 6 2 [.int .i64 0,.int .i64 0,.int .i64 0,.int .i64 0,.int .i64 0,.int .i64 0,.int .i64 0,.int .i64 0,.int .i64 0,.int .i64 0,.int .i64 0,.int .i64 0] [(0,6,(.tmp 62)),(6,6,(.tmp 64))]),As 10 65])
 (.seq (.reg (some [4,6,9,10]) [Mv 67 10,Ca 68 10 [.tmp 67] (some (.tup [.one .slice,.one (.int .i64),.one (.int .i64)])),Mv 66 68,Ex 69 66 0,Ex 70 66 1,Ex 71 66 2,As 11 69,As 12 70,As 13 71])
 (.seq (.reg (some [4,6,9,10,11,12,13]) [Mv 73 10,Ca 74 16 [.tmp 73,.const (.int .i64 1),.const (.int .i64 5)] (some (.tup [.one .slice,.one (.int .i64)])),Mv 72 74,Ex 75 72 0,Ex 76 72 1,As 14 75,As 15 76])
 (.seq (.reg (some [4,6,9,10,11,12,13,15]) [Mv 78 10,Ca 79 16 [.tmp 78,.const (.int .i64 1),.const (.int .i64 0)] (some (.tup [.one .slice,.one (.int .i64)])),Mv 77 79,Ex 80 77 0,Ex 81 77 1,As 16 80,As 17 81])
 (.seq (.reg (some [4,6,9,10,11,12,13,15,17]) [Mv 83 10,Ca 84 16 [.tmp 83,.const (.int .i64 (-1)),.const (.int .i64 1)] (some (.tup [.one .slice,.one (.int .i64)])),Mv 82 84,Ex 85 82 0,Ex 86 82 1,As 18 85,As 19 86])
 (.seq (.reg (some [4,6,9,10,11,12,13,15,17,19]) [Mv 88 10,Ca 89 16 [.tmp 88,.const (.int .i64 7),.const (.int .i64 7)] (some (.tup [.one .slice,.one (.int .i64)])),Mv 87 89,Ex 90 87 0,Ex 91 87 1,As 20 90,As 21 91])
 (.seq (.reg (some [4,6,9,10,11,12,13,15,17,19,20,21]) [Ca 93 34 [] (some (.val (.one .slice))),Ca 94 16 [.tmp 93,.const (.int .i64 3),.const (.int .i64 1)] (some (.tup [.one .slice,.one (.int .i64)])),Mv 92 94,Ex 95 92 0,Ex 96 92 1,As 22 95,As 23 96])
 (.seq (.reg (some [4,6,9,10,11,12,13,15,17,19,20,21,22,23]) [Mv 98 10,Ro 99 (.buildSlice 1 2 [.int .i64 0,.int .i64 0] [(0,1,(.const (.int .i64 1))),(1,1,(.const (.int .i64 3)))]),Ca 100 23 [.tmp 98,.tmp 99] (some (.tup [.one .slice,.one (.int .i64)])),Mv 97 100,Ex 101 97 0,Ex 102 97 1,As 24 101,As 25 102])
 (.seq (.reg (some [4,6,9,10,11,12,13,15,17,19,20,21,22,23,25]) [Mv 104 10,Ro 105 (.buildSlice 1 3 [.int .i64 0,.int .i64 0,.int .i64 0] [(0,1,(.const (.int .i64 1))),(1,1,(.const (.int .i64 3))),(2,1,(.const (.int .i64 5)))]),Ca 106 23 [.tmp 104,.tmp 105] (some (.tup [.one .slice,.one (.int .i64)])),Mv 103 106,Ex 107 103 0,Ex 108 103 1,As 26 107,As 27 108])
 (.seq (.reg (some [4,6,9,10,11,12,13,15,17,19,20,21,22,23,25,27]) [Mv 110 10,Ro 111 (.buildSlice 1 3 [.int .i64 0,.int .i64 0,.int .i64 0] [(0,1,(.const (.int .i64 1))),(1,1,(.const (.int .i64 3))),(2,1,(.const (.int .i64 5)))]),Ca 112 29 [.tmp 110,.tmp 111] (some (.tup [.agg [.int .i64,.int .i64,.int .i64],.one (.int .i64)])),Mv 109 112,Ex 113 109 0,Ex 114 109 1,⟨some 28,none,.op true (.new 3 [.int .i64 0,.int .i64 0,.int .i64 0])⟩,⟨none,none,.op false (.store 3 (.tmp 28) (.tmp 113))⟩,As 29 114])
 (.seq (.reg (some [4,6,9,11,12,13,15,17,19,20,21,22,23,25,27,29]) [Ca 116 10 [.const (.slice none 0 0)] (some (.tup [.one .slice,.one (.int .i64),.one (.int .i64)])),Mv 115 116,Ex 117 115 0,Ex 118 115 1,Ex 119 115 2,As 30 117,As 31 118,As 32 119])
 (.seq (.reg (some [4,6,9,11,12,13,15,17,19,20,21,22,23,25,27,29,30,31,32]) [Ca 120 34 [] (some (.val (.one .slice))),As 33 120])
 (.seq (.reg (some [4,6,9,11,12,13,15,17,19,20,21,22,23,25,27,29,30,31,32,33]) [Mv 121 33,Ro 122 (.build [.int .i64 0,.int .i64 0,.int .i64 0] [(2,1,(.const (.int .i64 1)))]),Ro 123 (.ixS 6 (.tmp 121) (.const (.int .i64 4))),Fa 124 2 123,⟨none,none,.op false (.store 3 (.tmp 124) (.tmp 122))⟩])
 (.seq (.reg (some [4,6,9,11,12,13,15,17,19,20,21,22,23,25,27,29,30,31,32,33]) [Mv 126 33,Ro 127 (.buildSlice 1 4 [.int .i64 0,.int .i64 0,.int .i64 0,.int .i64 0] [(0,1,(.const (.int .i64 0))),(1,1,(.const (.int .i64 1))),(2,1,(.const (.int .i64 2))),(3,1,(.const (.int .i64 3)))]),Ca 128 29 [.tmp 126,.tmp 127] (some (.tup [.agg [.int .i64,.int .i64,.int .i64],.one (.int .i64)])),Mv 125 128,Ex 129 125 0,Ex 130 125 1,⟨some 34,none,.op true (.new 3 [.int .i64 0,.int .i64 0,.int .i64 0])⟩,⟨none,none,.op false (.store 3 (.tmp 34) (.tmp 129))⟩,As 35 130])
 (.seq (.reg (some [4,6,9,11,12,13,15,17,19,20,21,22,23,25,27,29,30,31,32,35]) [Ca 131 21 [] (some (.val (.one .bool))),Mv 132 131,⟨some 133,some (132,true),.op false (.old (.move (.tmp 4)))⟩,⟨some 134,some (132,true),.op false (.old (.binOp .eql 24 (.tmp 133) (.const (.int .i64 4)) 24))⟩,Ol 135 (.pick (.tmp 132) (.tmp 134) (.const (.bool false))),Mv 136 135,⟨some 137,some (136,true),.op false (.old (.move (.tmp 6)))⟩,⟨some 138,some (136,true),.op false (.old (.binOp .eql 24 (.tmp 137) (.const (.int .i64 8)) 24))⟩,Ol 139 (.pick (.tmp 136) (.tmp 138) (.const (.bool false))),Mv 140 139,⟨some 141,some (140,true),.op false (.old (.move (.tmp 9)))⟩,⟨some 142,some (140,true),.op false (.old (.binOp .eql 24 (.tmp 141) (.const (.int .i64 14)) 24))⟩,Ol 143 (.pick (.tmp 140) (.tmp 142) (.const (.bool false))),Mv 144 143,⟨some 145,some (144,true),.op false (.old (.move (.tmp 13)))⟩,⟨some 146,some (144,true),.op false (.old (.binOp .eql 24 (.tmp 145) (.const (.int .i64 0)) 24))⟩,Ol 147 (.pick (.tmp 144) (.tmp 146) (.const (.bool false))),Mv 148 147,⟨some 149,some (148,true),.op false (.old (.move (.tmp 12)))⟩,⟨some 150,some (148,true),.op false (.old (.binOp .eql 3 (.tmp 149) (.const (.int .i64 2)) 3))⟩,Ol 151 (.pick (.tmp 148) (.tmp 150) (.const (.bool false))),Mv 152 151,⟨some 153,some (152,true),.op false (.old (.move (.tmp 11)))⟩,⟨some 154,some (152,true),.op false (.build [.int .i64 0,.int .i64 0] [(0,1,(.const (.int .i64 1))),(1,1,(.const (.int .i64 3)))])⟩,⟨some 155,some (152,true),.op false (.build [.int .i64 0,.int .i64 0] [(0,1,(.const (.int .i64 5))),(1,1,(.const (.int .i64 7)))])⟩,⟨some 156,some (152,true),.op false (.buildSlice 2 2 [.int .i64 0,.int .i64 0,.int .i64 0,.int .i64 0] [(0,2,(.tmp 154)),(2,2,(.tmp 155))])⟩,⟨some 157,some (152,true),.call (.func 18) [.tmp 153,.tmp 156] (some (.val (.one .bool)))⟩,Ol 158 (.pick (.tmp 152) (.tmp 157) (.const (.bool false))),Mv 159 158,⟨some 160,some (159,true),.op false (.old (.move (.tmp 15)))⟩,⟨some 161,some (159,true),.op false (.old (.binOp .eql 24 (.tmp 160) (.const (.int .i64 6)) 24))⟩,Ol 162 (.pick (.tmp 159) (.tmp 161) (.const (.bool false))),Mv 163 162,⟨some 164,some (163,true),.op false (.old (.move (.tmp 17)))⟩,⟨some 165,some (163,true),.op false (.old (.binOp .eql 24 (.tmp 164) (.const (.int .i64 2)) 24))⟩,Ol 166 (.pick (.tmp 163) (.tmp 165) (.const (.bool false))),Mv 167 166,⟨some 168,some (167,true),.op false (.old (.move (.tmp 19)))⟩,⟨some 169,some (167,true),.op false (.old (.binOp .eql 24 (.tmp 168) (.const (.int .i64 2)) 24))⟩,Ol 170 (.pick (.tmp 167) (.tmp 169) (.const (.bool false))),Mv 171 170,⟨some 172,some (171,true),.op false (.old (.move (.tmp 21)))⟩,⟨some 173,some (171,true),.op false (.old (.binOp .eql 24 (.tmp 172) (.const (.int .i64 0)) 24))⟩,Ol 174 (.pick (.tmp 171) (.tmp 173) (.const (.bool false))),Mv 175 174,⟨some 176,some (175,true),.op false (.old (.move (.tmp 20)))⟩,⟨some 177,some (175,true),.op false (.buildSlice 1 1 [.int .i64 0] [(0,1,(.const (.int .i64 7)))])⟩,⟨some 178,some (175,true),.call (.func 20) [.tmp 176,.tmp 177] (some (.val (.one .bool)))⟩,Ol 179 (.pick (.tmp 175) (.tmp 178) (.const (.bool false))),As 36 179])
 (.seq (.reg (some [22,23,25,27,29,30,31,32,35,36]) [Mv 180 36,Mv 181 180,⟨some 182,some (181,true),.op false (.old (.move (.tmp 23)))⟩,⟨some 183,some (181,true),.op false (.old (.binOp .eql 24 (.tmp 182) (.const (.int .i64 0)) 24))⟩,Ol 184 (.pick (.tmp 181) (.tmp 183) (.const (.bool false))),Mv 185 184,⟨some 186,some (185,true),.op false (.old (.move (.tmp 22)))⟩,⟨some 187,some (185,true),.op false (.buildSlice 1 3 [.int .i64 0,.int .i64 0,.int .i64 0] [(0,1,(.const (.int .i64 3))),(1,1,(.const (.int .i64 0))),(2,1,(.const (.int .i64 1)))])⟩,⟨some 188,some (185,true),.call (.func 20) [.tmp 186,.tmp 187] (some (.val (.one .bool)))⟩,Ol 189 (.pick (.tmp 185) (.tmp 188) (.const (.bool false))),Mv 190 189,⟨some 191,some (190,true),.op false (.old (.move (.tmp 25)))⟩,⟨some 192,some (190,true),.op false (.old (.binOp .eql 24 (.tmp 191) (.const (.int .i64 2)) 24))⟩,Ol 193 (.pick (.tmp 190) (.tmp 192) (.const (.bool false))),Mv 194 193,⟨some 195,some (194,true),.op false (.old (.move (.tmp 27)))⟩,⟨some 196,some (194,true),.op false (.old (.binOp .eql 24 (.tmp 195) (.const (.int .i64 6)) 24))⟩,Ol 197 (.pick (.tmp 194) (.tmp 196) (.const (.bool false))),Mv 198 197,⟨some 199,some (198,true),.op false (.old (.move (.tmp 29)))⟩,⟨some 200,some (198,true),.op false (.old (.binOp .eql 24 (.tmp 199) (.const (.int .i64 6)) 24))⟩,Ol 201 (.pick (.tmp 198) (.tmp 200) (.const (.bool false))),Mv 202 201,⟨some 203,some (202,true),.op false (.old (.move (.tmp 32)))⟩,⟨some 204,some (202,true),.op false (.old (.binOp .eql 24 (.tmp 203) (.const (.int .i64 0)) 24))⟩,Ol 205 (.pick (.tmp 202) (.tmp 204) (.const (.bool false))),Mv 206 205,⟨some 207,some (206,true),.op false (.old (.move (.tmp 31)))⟩,⟨some 208,some (206,true),.op false (.old (.binOp .eql 3 (.tmp 207) (.const (.int .i64 0)) 3))⟩,Ol 209 (.pick (.tmp 206) (.tmp 208) (.const (.bool false))),Mv 210 209,⟨some 211,some (210,true),.op false (.old (.move (.tmp 30)))⟩,⟨some 212,some (210,true),.op false (.lenS (.tmp 211))⟩,⟨some 213,some (210,true),.op false (.old (.binOp .eql 3 (.tmp 212) (.const (.int .i64 0)) 3))⟩,Ol 214 (.pick (.tmp 210) (.tmp 213) (.const (.bool false))),Mv 215 214,⟨some 216,some (215,true),.op false (.old (.move (.tmp 35)))⟩,⟨some 217,some (215,true),.op false (.old (.binOp .eql 24 (.tmp 216) (.const (.int .i64 18)) 24))⟩,Ol 218 (.pick (.tmp 215) (.tmp 217) (.const (.bool false))),As 0 218])
 .ret))))))))))))))))))))),
 [.tmp 0],
 [],
 []⟩
def r10 : RFun :=
⟨.seq (.reg (some [0]) [Ol 2 (.assign (.const (.slice none 0 0))),Ac 3 0,Ac 4 0])
 (.seq (.seq (.reg (some [0]) [Mv 8 0,Ca 9 35 [.tmp 8] (some (.val (.one (.int .i64)))),As 5 9])
 (.seq (.reg (some [0,5]) [Mv 10 5,Bc 11 .neq 24 10 .i64 0])
 (.cond (.tmp 11) (.seq (.reg (some [5]) [Mv 12 5,Ol 2 (.assign (.const (.slice none 0 0))),Ac 3 0,As 4 12])
 .ret)
 .skip)))
 (.seq (.reg (some [0]) [Mv 14 0,Ca 15 36 [.tmp 14] (some (.tup [.one .slice,.one (.int .i64)])),Mv 13 15,Ex 16 13 0,Ex 17 13 1,As 6 16,As 7 17])
 (.seq (.reg (some [6,7]) [Mv 18 6,Mv 19 7,As 2 18,As 3 19,Ac 4 0])
 .ret))),
 [.tmp 2,.tmp 3,.tmp 4],
 [],
 []⟩
theorem r10_ok : resFun (progU ()) hint live 10 Try.f10 = some r10:=by kernel_rfl
def r11 : RFun :=
⟨.seq (.reg (some [0]) [Ol 2 (.assign (.const (.slice none 0 0))),Ac 3 0,Ac 4 0])
 (.seq (.seq (.reg (some [0]) [Mv 7 0,Ca 8 22 [.tmp 7] (some (.val (.one (.int .i64)))),Bc 9 .neq 3 8 .i64 0])
 (.cond (.tmp 9) (.seq (.reg (some [0]) [Mv 10 0,Ca 11 22 [.tmp 10] (some (.val (.one (.int .i64)))),Ol 2 (.assign (.const (.slice none 0 0))),Ac 3 0,As 4 11])
 .ret)
 .skip))
 (.seq (.reg (some [0]) [Mv 13 0,Ca 14 37 [.tmp 13] (some (.tup [.one .slice,.one (.int .i64)])),Mv 12 14,Ex 15 12 0,Ex 16 12 1,As 5 15,As 6 16])
 (.seq (.reg (some [5,6]) [Mv 17 5,Mv 18 6,As 2 17,As 3 18,Ac 4 0])
 .ret))),
 [.tmp 2,.tmp 3,.tmp 4],
 [],
 []⟩
theorem r11_ok : resFun (progU ()) hint live 11 Try.f11 = some r11:=by kernel_rfl
def r12 : RFun :=
⟨.seq (.reg (some [0]) [Ol 2 (.assign (.const (.slice none 0 0))),Ac 3 0])
 (.seq (.seq (.reg (some [0]) [Mv 5 0,Ca 6 35 [.tmp 5] (some (.val (.one (.int .i64)))),As 4 6])
 (.seq (.reg (some [0,4]) [Mv 7 4,Bc 8 .neq 24 7 .i64 0])
 (.cond (.tmp 8) (.seq (.reg (some [4]) [Mv 9 4,Ol 2 (.assign (.const (.slice none 0 0))),As 3 9])
 .ret)
 .skip)))
 (.seq (.reg (some [0]) [Mv 10 0,Mv 11 0,Ca 12 39 [.tmp 11] (some (.val (.one .any))),Ca 13 38 [.tmp 10,.tmp 12] (some (.val (.one .slice))),As 2 13,Ac 3 0])
 .ret)),
 [.tmp 2,.tmp 3],
 [],
 []⟩
theorem r12_ok : resFun (progU ()) hint live 12 Try.f12 = some r12:=by kernel_rfl
def r13 : RFun :=
⟨.seq (.reg (some [0]) [Ol 2 (.assign (.const (.slice none 0 0))),Ac 3 0])
 (.seq (.seq (.reg (some [0]) [Mv 4 0,Ca 5 22 [.tmp 4] (some (.val (.one (.int .i64)))),Bc 6 .neq 3 5 .i64 0])
 (.cond (.tmp 6) (.seq (.reg (some [0]) [Mv 7 0,Ca 8 22 [.tmp 7] (some (.val (.one (.int .i64)))),Ol 2 (.assign (.const (.slice none 0 0))),As 3 8])
 .ret)
 .skip))
 (.seq (.reg (some [0]) [Mv 9 0,Ca 10 40 [.tmp 9] (some (.val (.one .slice))),As 2 10,Ac 3 0])
 .ret)),
 [.tmp 2,.tmp 3],
 [],
 []⟩
theorem r13_ok : resFun (progU ()) hint live 13 Try.f13 = some r13:=by kernel_rfl
def r14 : RFun :=
⟨.seq (.reg (some [0]) [Ol 2 (.assign (.const (.slice none 0 0))),Ac 3 0])
 (.seq (.seq (.reg (some [0]) [Mv 7 0,Ca 8 35 [.tmp 7] (some (.val (.one (.int .i64)))),As 4 8])
 (.seq (.reg (some [0,4]) [Mv 9 4,Bc 10 .neq 24 9 .i64 0])
 (.cond (.tmp 10) (.seq (.reg (some [4]) [Mv 11 4,Ol 2 (.assign (.const (.slice none 0 0))),As 3 11])
 .ret)
 .skip)))
 (.seq (.reg (some [0]) [Mv 13 0,Ca 14 41 [.tmp 13] (some (.tup [.one .slice,.one .slice])),Mv 12 14,Ex 15 12 0,Ex 16 12 1,As 5 15,As 6 16])
 (.seq (.reg (some [6]) [Mv 17 6,As 2 17,Ac 3 0])
 .ret))),
 [.tmp 2,.tmp 3],
 [],
 []⟩
theorem r14_ok : resFun (progU ()) hint live 14 Try.f14 = some r14:=by kernel_rfl
def r15 : RFun :=
⟨.seq (.reg (some [0]) [Ol 2 (.assign (.const (.slice none 0 0))),Ac 3 0])
 (.seq (.seq (.reg (some [0]) [Mv 4 0,Ca 5 22 [.tmp 4] (some (.val (.one (.int .i64)))),Bc 6 .neq 3 5 .i64 0])
 (.cond (.tmp 6) (.seq (.reg (some [0]) [Mv 7 0,Ca 8 22 [.tmp 7] (some (.val (.one (.int .i64)))),Ol 2 (.assign (.const (.slice none 0 0))),As 3 8])
 .ret)
 .skip))
 (.seq (.reg (some [0]) [Mv 9 0,Ca 10 42 [.tmp 9] (some (.val (.one .slice))),As 2 10,Ac 3 0])
 .ret)),
 [.tmp 2,.tmp 3],
 [],
 []⟩
theorem r15_ok : resFun (progU ()) hint live 15 Try.f15 = some r15:=by kernel_rfl
def r16 : RFun :=
⟨.seq (.reg (some [0,1,2]) [Ol 6 (.assign (.const (.slice none 0 0))),Ac 7 0])
 (.seq (.seq (.reg (some [0,1,2]) [Mv 15 0,Ca 16 35 [.tmp 15] (some (.val (.one (.int .i64)))),As 8 16])
 (.seq (.reg (some [0,1,2,8]) [Mv 17 8,Bc 18 .neq 24 17 .i64 0])
 (.cond (.tmp 18) (.seq (.reg (some [8]) [Mv 19 8,Ol 6 (.assign (.const (.slice none 0 0))),As 7 19])
 .ret)
 .skip)))
 (.seq (.reg (some [0,1,2]) [Mv 20 0,Ca 21 43 [.tmp 20] (some (.val (.one .any))),As 9 21])
 (.seq (.reg (some [0,1,2,9]) [Mv 23 9,Mv 24 1,Ol 25 (.lookup 76 (.tmp 23) (.tmp 24) true),Mv 22 25,Ex 26 22 0,Ex 27 22 1,As 10 26,As 11 27])
 (.seq (.reg (some [0,1,2,9,11]) [Mv 29 9,Mv 30 2,Ol 31 (.lookup 76 (.tmp 29) (.tmp 30) true),Mv 28 31,Ex 32 28 0,Ex 33 28 1,As 12 32,As 13 33])
 (.seq (.seq (.reg (some [0,1,2,11,13]) [Mv 34 11,Ol 35 (.unOp .not 4 (.tmp 34)),Mv 36 35,⟨some 37,some (36,false),.op false (.old (.move (.tmp 13)))⟩,⟨some 38,some (36,false),.op false (.old (.unOp .not 4 (.tmp 37)))⟩,Ol 39 (.pick (.tmp 36) (.const (.bool true)) (.tmp 38))])
 (.cond (.tmp 39) (.seq (.reg (some []) [Ol 6 (.assign (.const (.slice none 0 0))),Ac 7 2])
 .ret)
 .skip))
 (.seq (.reg (some [0,1,2]) [Mv 40 0,Ca 41 39 [.tmp 40] (some (.val (.one .any))),Mv 42 1,Mv 43 2,Ca 44 44 [.tmp 41,.tmp 42,.tmp 43] (some (.val (.one .slice))),As 14 44])
 (.seq (.seq (.reg (some [14]) [Mv 45 14,Ol 46 (.binOp .eql 38 (.tmp 45) (.const (.slice none 0 0)) 38)])
 (.cond (.tmp 46) (.seq (.reg (some []) [Ol 6 (.assign (.const (.slice none 0 0))),Ac 7 6])
 .ret)
 .skip))
 (.seq (.reg (some [14]) [Mv 47 14,As 6 47,Ac 7 0])
 .ret)))))))),
 [.tmp 6,.tmp 7],
 [],
 []⟩
theorem r16_ok : resFun (progU ()) hint live 16 Try.f16 = some r16:=by kernel_rfl
def r17 : RFun :=
⟨.seq (.reg (some [0,1,2]) [Ol 6 (.assign (.const (.slice none 0 0))),Ac 7 0])
 (.seq (.seq (.reg (some [0,1,2]) [Mv 11 0,Ca 12 22 [.tmp 11] (some (.val (.one (.int .i64)))),Bc 13 .neq 3 12 .i64 0])
 (.cond (.tmp 13) (.seq (.reg (some [0]) [Mv 14 0,Ca 15 22 [.tmp 14] (some (.val (.one (.int .i64)))),Ol 6 (.assign (.const (.slice none 0 0))),As 7 15])
 .ret)
 .skip))
 (.seq (.seq (.reg (some [0,1,2]) [Mv 16 0,Mv 17 1,Ca 18 27 [.tmp 16,.tmp 17] (some (.val (.one .bool))),Ol 19 (.unOp .not 4 (.tmp 18)),Mv 20 19,⟨some 21,some (20,false),.op false (.old (.move (.tmp 0)))⟩,⟨some 22,some (20,false),.op false (.old (.move (.tmp 2)))⟩,⟨some 23,some (20,false),.call (.func 27) [.tmp 21,.tmp 22] (some (.val (.one .bool)))⟩,⟨some 24,some (20,false),.op false (.old (.unOp .not 4 (.tmp 23)))⟩,Ol 25 (.pick (.tmp 20) (.const (.bool true)) (.tmp 24))])
 (.cond (.tmp 25) (.seq (.reg (some []) [Ol 6 (.assign (.const (.slice none 0 0))),Ac 7 2])
 .ret)
 .skip))
 (.seq (.reg (some [0,1,2]) [Mv 27 0,Ca 28 37 [.tmp 27] (some (.tup [.one .slice,.one (.int .i64)])),Mv 26 28,Ex 29 26 0,Ex 30 26 1,As 8 29,As 9 30])
 (.seq (.reg (some [1,2,8]) [Mv 31 8,Mv 32 1,Mv 33 2,Ca 34 45 [.tmp 31,.tmp 32,.tmp 33,.const (.int .i64 (-1))] (some (.val (.one .slice))),As 10 34])
 (.seq (.seq (.reg (some [10]) [Mv 35 10,Ro 36 (.lenS (.tmp 35)),Bc 37 .eql 3 36 .i64 0])
 (.cond (.tmp 37) (.seq (.reg (some []) [Ol 6 (.assign (.const (.slice none 0 0))),Ac 7 6])
 .ret)
 .skip))
 (.seq (.reg (some [10]) [Mv 38 10,As 6 38,Ac 7 0])
 .ret)))))),
 [.tmp 6,.tmp 7],
 [],
 []⟩
theorem r17_ok : resFun (progU ()) hint live 17 Try.f17 = some r17:=by kernel_rfl
def r18 : RFun :=
⟨.seq (.reg (some [0,1]) [Ol 4 (.assign (.const (.bool false)))])
 (.seq (.seq (.reg (some [0,1]) [Mv 6 0,Ro 7 (.lenS (.tmp 6)),Mv 8 1,Ro 9 (.lenS (.tmp 8)),Bt 10 .neq 3 7 9])
 (.cond (.tmp 10) (.seq (.reg (some []) [Ol 4 (.assign (.const (.bool false)))])
 .ret)
 .skip))
 (.seq (.seq (.reg (some [0,1]) [Ac 5 0])
 (.block 0 (.loop 4 (some [0,1,5]) (some [0,1,5]))))
 (.seq (.reg (some []) [Ol 4 (.assign (.const (.bool true)))])
 .ret))),
 [.tmp 4],
 [(4,⟨some [0,1,5],some [0,1,5],.seq (.seq (.reg (some [0,1,5]) [Mv 11 5,Mv 12 0,Ro 13 (.lenS (.tmp 12)),Bt 14 .lss 3 11 13])
 (.cond (.tmp 14) .skip
 (.exit 0 (some []))))
 (.seq (.block 1 (.seq (.draw (some [0,1,5]) 9 [Dr (Mv 17 0) 0 [2,3,8],Dr (Mv 18 5) 1 [2,3,8],Dr (Ix 19 2 17 18) 2 [3,8],Db (Ld 20 19) 3 19 [8],Dr (Mv 21 1) 4 [6,7,8],Dr (Mv 22 5) 5 [6,7,8],Dr (Ix 23 2 21 22) 6 [7,8],Db (Ld 24 23) 7 23 [8],Dr (Bt 25 .neq 54 20 24) 8 []])
 (.cond (.tmp 25) (.seq (.reg (some []) [Ol 4 (.assign (.const (.bool false)))])
 .ret)
 .skip)))
 (.reg (some [0,1,5]) [Mv 15 5,Bc 16 .add 3 15 .i64 1,As 5 16]))⟩)],
 []⟩
theorem r18_ok : resFun (progU ()) hint live 18 Try.f18 = some r18:=by kernel_rfl
def r19 : RFun :=
⟨.seq (.reg (some [0,1]) [Ol 4 (.assign (.const (.bool false)))])
 (.seq (.seq (.reg (some [0,1]) [Mv 6 0,Ro 7 (.lenS (.tmp 6)),Mv 8 1,Ro 9 (.lenS (.tmp 8)),Bt 10 .neq 3 7 9])
 (.cond (.tmp 10) (.seq (.reg (some []) [Ol 4 (.assign (.const (.bool false)))])
 .ret)
 .skip))
 (.seq (.seq (.reg (some [0,1]) [Ac 5 0])
 (.block 0 (.loop 4 (some [0,1,5]) (some [0,1,5]))))
 (.seq (.reg (some []) [Ol 4 (.assign (.const (.bool true)))])
 .ret))),
 [.tmp 4],
 [(4,⟨some [0,1,5],some [0,1,5],.seq (.seq (.reg (some [0,1,5]) [Mv 11 5,Mv 12 0,Ro 13 (.lenS (.tmp 12)),Bt 14 .lss 3 11 13])
 (.cond (.tmp 14) .skip
 (.exit 0 (some []))))
 (.seq (.block 1 (.seq (.draw (some [0,1,5]) 10 [Dr (Mv 17 0) 0 [2,3,8,9],Dr (Mv 18 5) 1 [2,3,8,9],Dr (Ix 19 1 17 18) 2 [3,8,9],Db (Ro 20 (.load1 .slice (.tmp 19))) 3 19 [8,9],Dr (Mv 21 1) 4 [6,7,8,9],Dr (Mv 22 5) 5 [6,7,8,9],Dr (Ix 23 1 21 22) 6 [7,8,9],Db (Ro 24 (.load1 .slice (.tmp 23))) 7 23 [8,9],⟨Ca 25 20 [.tmp 20,.tmp 24] (some (.val (.one .bool))),8,.all,[9],false,false⟩,Dr (Ol 26 (.unOp .not 4 (.tmp 25))) 9 []])
 (.cond (.tmp 26) (.seq (.reg (some []) [Ol 4 (.assign (.const (.bool false)))])
 .ret)
 .skip)))
 (.reg (some [0,1,5]) [Mv 15 5,Bc 16 .add 3 15 .i64 1,As 5 16]))⟩)],
 []⟩
theorem r19_ok : resFun (progU ()) hint live 19 Try.f19 = some r19:=by kernel_rfl
end Go.Proofs.Ytmkiclinllifiaa
