import Derived.Test.YtogliemiljhliaaSeat0
import Derived.Test.YtogliemiljhliaaSymS
set_option linter.unusedSimpArgs false
set_option linter.unusedVariables false
namespace Go.Proofs.Ytogliemiljhliaa
open Go.Sim
set_option maxRecDepth 100000
def r8 : RFun :=
⟨.seq (Rg [] [Ol 0 (.assign (.const (.bool false)))])
 (.seq (Rg [] [Ro 36 (.buildSlice 1 1 [.int .i64 0] [(0,1,(Ci 3))]),Ro 37 (.buildSlice 1 2 z2 [(0,1,(Ci 1)),(1,1,(Ci 1))]),Ro 38 (.buildSlice 1 2 z2 [(0,1,(Ci 2)),(1,1,(Ci 1))]),Ro 39 (.buildSlice 1 2 z2 [(0,1,(.const (.int .i64 (-1)))),(1,1,(Ci 1))]),Ro 40 (.buildSlice 1 2 z2 [(0,1,(Ci 0)),(1,1,(Ci 32))]),Ro 41 (.buildSlice 1 6 [.slice none 0 0,.slice none 0 0,.slice none 0 0,.slice none 0 0,.slice none 0 0,.slice none 0 0] [(0,1,(.const (.slice none 0 0))),(1,1,(T 36)),(2,1,(T 37)),(3,1,(T 38)),(4,1,(T 39)),(5,1,(T 40))]),As 1 41])
 (.seq (.seq (Rg [1] [Ac 2 0])
 (.block 0 (.loop 3 none (some [1,2]))))
 (.seq (Rg [] [Ro 66 (.mkSlice 1 [.int .i64 0] (Ci 6) (Ci 6)),Ca 67 18 [T 66] vI,As 5 67])
 (.seq (Rg [5] [Ro 68 (.buildSlice 1 2 z2 [(0,1,(Ci 4)),(1,1,(Ci 31))]),As 6 68])
 (.seq (Rg [5,6] [Mv 70 6,Ca 71 10 [T 70] (some (.tup [.one .slice,.one (.int .i64)])),Mv 69 71,Ex 72 69 0,Ex 73 69 1,As 7 72,As 8 73])
 (.seq (Rg [5,6,7,8] [Mv 75 6,Ca 76 14 [T 75] (some (.tup [.one .slice,.one (.int .i64)])),Mv 74 76,Ex 77 74 0,Ex 78 74 1,As 9 77,As 10 78])
 (.seq (Rg [5,6,7,8,9,10] [Mv 80 6,Ca 81 16 [T 80] (some (.tup [.one .bool,.one (.int .i64)])),Mv 79 81,Ex 82 79 0,Ex 83 79 1,As 11 82,As 12 83])
 (.seq (Rg [5,6,7,8,9,10,11,12] [Mv 85 6,Ro 86 (.buildSlice 1 1 [.int .i64 0] [(0,1,(Ci 100))]),Ca 87 27 [T 85,T 86] (some (.tup [.one .slice,.one .slice,.one (.int .i64)])),Mv 84 87,Ex 88 84 0,Ex 89 84 1,Ex 90 84 2,As 13 88,As 14 89,As 15 90])
 (.seq (Rg [5,6,7,8,9,10,11,12,15] [Mv 92 6,Ca 93 27 [T 92,.const (.slice none 0 0)] (some (.tup [.one .slice,.one .slice,.one (.int .i64)])),Mv 91 93,Ex 94 91 0,Ex 95 91 1,Ex 96 91 2,As 16 94,As 17 95,As 18 96])
 (.seq (Rg [5,6,7,8,9,10,11,12,15,18] [Ro 98 (.buildSlice 1 4 [.int .i64 0,.int .i64 0,.int .i64 0,.int .i64 0] [(0,1,(Ci 0)),(1,1,(Ci 1)),(2,1,(Ci 2)),(3,1,(Ci 3))]),Ro 99 (.buildSlice 1 6 [.int .i64 0,.int .i64 0,.int .i64 0,.int .i64 0,.int .i64 0,.int .i64 0] [(0,1,(Ci 0)),(1,1,(Ci 0)),(2,1,(Ci 0)),(3,1,(Ci 0)),(4,1,(Ci 0)),(5,1,(Ci 1))]),Ca 100 27 [T 98,T 99] (some (.tup [.one .slice,.one .slice,.one (.int .i64)])),Mv 97 100,Ex 101 97 0,Ex 102 97 1,Ex 103 97 2,As 19 101,As 20 102,As 21 103])
 (.seq (Rg [5,6,7,8,9,10,11,12,15,18,21] [Ca 104 24 [.const (.int .i64 1),.const (.int .i64 1)] (some (.val (.agg s2))),Ro 105 (.buildSlice 2 1 z2 [(0,2,(T 104))]),As 22 105])
 (.seq (Rg [5,6,7,8,9,10,11,12,15,18,21,22] [Mv 107 6,Mv 108 22,Mv 109 22,Ca 110 30 [T 107,T 108,T 109] (some (.tup [.one .slice,.one (.int .i64)])),Mv 106 110,Ex 111 106 0,Ex 112 106 1,As 23 111,As 24 112])
 (.seq (Rg [5,6,7,8,9,10,11,12,15,18,21,22,24] [Mv 114 6,Mv 115 22,Ca 116 24 [.const (.int .i64 1),.const (.int .i64 1)] (some (.val (.agg s2))),Ro 117 (.buildSlice 2 1 z2 [(0,2,(T 116))]),⟨some 118,none,.op false (.old (.call ⟨.builtin .append,#[T 115,T 117],#[50,50]⟩))⟩,Ca 119 30 [T 114,T 118,.const (.slice none 0 0)] (some (.tup [.one .slice,.one (.int .i64)])),Mv 113 119,Ex 120 113 0,Ex 121 113 1,As 25 120,As 26 121])
 (.seq (Rg [5,6,7,8,9,10,11,12,15,18,21,22,24,26] [Mv 123 6,Mv 124 22,Ca 125 24 [.const (.int .i64 1),.const (.int .i64 1001)] (some (.val (.agg s2))),Ro 126 (.buildSlice 2 1 z2 [(0,2,(T 125))]),⟨some 127,none,.op false (.old (.call ⟨.builtin .append,#[T 124,T 126],#[50,50]⟩))⟩,Mv 128 22,Ca 129 30 [T 123,T 127,T 128] (some (.tup [.one .slice,.one (.int .i64)])),Mv 122 129,Ex 130 122 0,Ex 131 122 1,As 27 130,As 28 131])
 (.seq (Rg [5,6,7,8,9,10,11,12,15,18,21,22,24,26,28] [Mv 133 6,Mv 134 22,Ca 135 24 [.const (.int .i64 1000001),.const (.int .i64 1)] (some (.val (.agg s2))),Ro 136 (.buildSlice 2 1 z2 [(0,2,(T 135))]),⟨some 137,none,.op false (.old (.call ⟨.builtin .append,#[T 134,T 136],#[50,50]⟩))⟩,Mv 138 22,Ca 139 30 [T 133,T 137,T 138] (some (.tup [.one .slice,.one (.int .i64)])),Mv 132 139,Ex 140 132 0,Ex 141 132 1,As 29 140,As 30 141])
 (.seq (Rg [5,6,7,8,9,10,11,12,15,18,21,22,24,26,28,30] [Mv 143 6,Mv 144 22,Ca 145 24 [.const (.int .i64 2),.const (.int .i64 2)] (some (.val (.agg s2))),Ro 146 (.buildSlice 2 1 z2 [(0,2,(T 145))]),⟨some 147,none,.op false (.old (.call ⟨.builtin .append,#[T 144,T 146],#[50,50]⟩))⟩,Mv 148 22,Ca 149 30 [T 143,T 147,T 148] (some (.tup [.one .slice,.one (.int .i64)])),Mv 142 149,Ex 150 142 0,Ex 151 142 1,As 31 150,As 32 151])
 (.seq (Rg [5,6,7,8,9,10,11,12,15,18,21,24,26,28,30,32] [Mv 153 6,Ca 154 24 [.const (.int .i64 3),.const (.int .i64 1)] (some (.val (.agg s2))),Ca 155 24 [.const (.int .i64 1),.const (.int .i64 2)] (some (.val (.agg s2))),Ro 156 (.buildSlice 2 2 [.int .i64 0,.int .i64 0,.int .i64 0,.int .i64 0] [(0,2,(T 154)),(2,2,(T 155))]),Ca 157 24 [.const (.int .i64 1),.const (.int .i64 1000)] (some (.val (.agg s2))),Ro 158 (.buildSlice 2 1 z2 [(0,2,(T 157))]),Ca 159 30 [T 153,T 156,T 158] (some (.tup [.one .slice,.one (.int .i64)])),Mv 152 159,Ex 160 152 0,Ex 161 152 1,As 33 160,As 34 161])
 (.seq (Rg [5,7,8,9,10,11,12,15,18,21,24,26,28,30,32,33,34] [Ol 162 (.move (.const (.bool true))),⟨some 163,some (162,true),.call (.func 23) [] vB⟩,Ol 164 (.pick (T 162) (T 163) (.const (.bool false))),Mv 165 164,Gt 166 165 (.move (T 5)),Gt 167 165 (.binOp .eql 23 (T 166) (Ci 4) 23),Ol 168 (.pick (T 165) (T 167) (.const (.bool false))),Mv 169 168,Gt 170 169 (.move (T 8)),Gt 171 169 (.binOp .eql 23 (T 170) (Ci 0) 23),Ol 172 (.pick (T 169) (T 171) (.const (.bool false))),Mv 173 172,Gt 174 173 (.move (T 7)),Ht 175 173 (.buildSlice 1 1 [.int .i64 0] [(0,1,(Ci 27))]),⟨some 176,some (173,true),.call (.func 20) [T 174,T 175] vB⟩,Ol 177 (.pick (T 173) (T 176) (.const (.bool false))),Mv 178 177,Gt 179 178 (.move (T 10)),Gt 180 178 (.binOp .eql 23 (T 179) (Ci 0) 23),Ol 181 (.pick (T 178) (T 180) (.const (.bool false))),Mv 182 181,Gt 183 182 (.move (T 9)),⟨some 184,some (182,true),.call (.func 24) [.const (.int .i64 1),.const (.int .i64 1)] (some (.val (.agg s2)))⟩,⟨some 185,some (182,true),.call (.func 24) [.const (.int .i64 1),.const (.int .i64 1)] (some (.val (.agg s2)))⟩,⟨some 186,some (182,true),.call (.func 24) [.const (.int .i64 0),.const (.int .i64 1)] (some (.val (.agg s2)))⟩,Ht 187 182 (.buildSlice 2 3 [.int .i64 0,.int .i64 0,.int .i64 0,.int .i64 0,.int .i64 0,.int .i64 0] [(0,2,(T 184)),(2,2,(T 185)),(4,2,(T 186))]),⟨some 188,some (182,true),.call (.func 24) [.const (.int .i64 (-1)),.const (.int .i64 1)] (some (.val (.agg s2)))⟩,⟨some 189,some (182,true),.call (.func 24) [.const (.int .i64 0),.const (.int .i64 1)] (some (.val (.agg s2)))⟩,⟨some 190,some (182,true),.call (.func 24) [.const (.int .i64 1),.const (.int .i64 1)] (some (.val (.agg s2)))⟩,Ht 191 182 (.buildSlice 2 3 [.int .i64 0,.int .i64 0,.int .i64 0,.int .i64 0,.int .i64 0,.int .i64 0] [(0,2,(T 188)),(2,2,(T 189)),(4,2,(T 190))]),Ht 192 182 (.buildSlice 1 2 [.slice none 0 0,.slice none 0 0] [(0,1,(T 187)),(1,1,(T 191))]),⟨some 193,some (182,true),.call (.func 22) [T 183,T 192] vB⟩,Ol 194 (.pick (T 182) (T 193) (.const (.bool false))),Mv 195 194,Gt 196 195 (.move (T 12)),Gt 197 195 (.binOp .eql 23 (T 196) (Ci 0) 23),Ol 198 (.pick (T 195) (T 197) (.const (.bool false))),Mv 199 198,Gt 200 199 (.move (T 11)),Ol 201 (.pick (T 199) (T 200) (.const (.bool false))),As 35 201])
 (.seq (Rg [15,18,21,24,26,28,30,32,33,34,35] [Mv 202 35,Mv 203 202,Gt 204 203 (.move (T 15)),Gt 205 203 (.binOp .eql 23 (T 204) (Ci 2) 23),Ol 206 (.pick (T 203) (T 205) (.const (.bool false))),Mv 207 206,Gt 208 207 (.move (T 18)),Gt 209 207 (.binOp .eql 23 (T 208) (Ci 2) 23),Ol 210 (.pick (T 207) (T 209) (.const (.bool false))),Mv 211 210,Gt 212 211 (.move (T 21)),Gt 213 211 (.binOp .eql 23 (T 212) (Ci 6) 23),Ol 214 (.pick (T 211) (T 213) (.const (.bool false))),Mv 215 214,Gt 216 215 (.move (T 24)),Gt 217 215 (.binOp .eql 23 (T 216) (Ci 2) 23),Ol 218 (.pick (T 215) (T 217) (.const (.bool false))),Mv 219 218,Gt 220 219 (.move (T 26)),Gt 221 219 (.binOp .eql 23 (T 220) (Ci 2) 23),Ol 222 (.pick (T 219) (T 221) (.const (.bool false))),Mv 223 222,Gt 224 223 (.move (T 28)),Gt 225 223 (.binOp .eql 23 (T 224) (Ci 2) 23),Ol 226 (.pick (T 223) (T 225) (.const (.bool false))),Mv 227 226,Gt 228 227 (.move (T 30)),Gt 229 227 (.binOp .eql 23 (T 228) (Ci 2) 23),Ol 230 (.pick (T 227) (T 229) (.const (.bool false))),Mv 231 230,Gt 232 231 (.move (T 32)),Gt 233 231 (.binOp .eql 23 (T 232) (Ci 2) 23),Ol 234 (.pick (T 231) (T 233) (.const (.bool false))),Mv 235 234,Gt 236 235 (.move (T 34)),Gt 237 235 (.binOp .eql 23 (T 236) (Ci 0) 23),Ol 238 (.pick (T 235) (T 237) (.const (.bool false))),Mv 239 238,Gt 240 239 (.move (T 33)),⟨some 241,some (239,true),.call (.func 24) [.const (.int .i64 2501),.const (.int .i64 1000)] (some (.val (.agg s2)))⟩,Ht 242 239 (.buildSlice 2 1 z2 [(0,2,(T 241))]),⟨some 243,some (239,true),.call (.func 28) [T 240,T 242] vB⟩,Ol 244 (.pick (T 239) (T 243) (.const (.bool false))),As 0 244])
 .ret))))))))))))))))))),
 [.tmp 0],
 [(3,⟨none,some [1,2],.seq (.seq (Rg [1,2] [Mv 42 2,Mv 43 1,Ro 44 (.lenS (T 43)),Bt 45 .lss 3 42 44])
 (.cond (T 45) .skip
 (.exit 0 (some []))))
 (.seq (.block 1 (.seq (Rg [1,2] [Mv 49 1,Mv 50 2,Ix 51 1 49 50,Ro 52 (.load1 .slice (T 51)),Ca 53 14 [T 52] (some (.tup [.one .slice,.one (.int .i64)])),Mv 48 53,Ex 54 48 0,Ex 55 48 1,As 3 54,As 4 55])
 (.seq (Rg [1,2,4] [Mv 56 1,Mv 57 2,Ix 58 1 56 57,Ro 59 (.load1 .slice (T 58)),Ca 60 18 [T 59] vI,Bc 61 .neq 23 60 .i64 8,Mv 62 61,Gf 63 62 (.move (T 4)),Gf 64 62 (.binOp .neq 23 (T 63) (Ci 8) 23),Ol 65 (.pick (T 62) (.const (.bool true)) (T 64))])
 (.cond (T 65) (.seq (Rg [] [Ol 0 (.assign (.const (.bool false)))])
 .ret)
 .skip))))
 (Rg [1,2] [Mv 46 2,Bc 47 .add 3 46 .i64 1,As 2 47]))⟩)],
 []⟩
def r9 : RFun :=
⟨.seq (Rg [0,1,2] [Ol 6 (.assign (.const (.bool false)))])
 (.seq (Rg [0,1,2] [Ca 27 23 [] vB,As 7 27])
 (.seq (.seq (Rg [0,1,2,7] [Mv 28 0,Ca 29 19 [T 28] vI,Bc 30 .neq 3 29 .i64 0,Mv 31 30,Gf 32 31 (.move (T 1)),Hf 33 31 (.lenS (T 32)),Gf 34 31 (.move (T 0)),Hf 35 31 (.lenS (T 34)),Gf 36 31 (.binOp .neq 3 (T 33) (T 35) 3),Ol 37 (.pick (T 31) (.const (.bool true)) (T 36)),Mv 38 37,Gf 39 38 (.move (T 2)),Hf 40 38 (.lenS (T 39)),Gf 41 38 (.binOp .gtr 3 (T 40) (Ci 20) 3),Ol 42 (.pick (T 38) (.const (.bool true)) (T 41)),Mv 43 42,Gf 44 43 (.move (T 7)),Gf 45 43 (.unOp .not 4 (T 44)),Ol 46 (.pick (T 43) (.const (.bool true)) (T 45))])
 (.cond (T 46) (.seq (Rg [7] [Mv 47 7,As 6 47])
 .ret)
 .skip))
 (.seq (Rg [0,1,2,7] [Mv 49 0,Mv 50 1,Mv 51 2,Ca 52 30 [T 49,T 50,T 51] (some (.tup [.one .slice,.one (.int .i64)])),Mv 48 52,Ex 53 48 0,Ex 54 48 1,As 8 53,As 9 54])
 (.seq (.seq (Rg [0,1,2,7,8,9] [Mv 55 9,Bc 56 .neq 23 55 .i64 0])
 (.cond (T 56) (.seq (Rg [7,9] [Mv 57 7,Mv 58 57,Gt 59 58 (.move (T 9)),Gt 60 58 (.binOp .eql 23 (T 59) (Ci 2) 23),Ol 61 (.pick (T 58) (T 60) (.const (.bool false))),As 6 61])
 .ret)
 .skip))
 (.seq (Rg [0,1,2,7,8] [Ol 10 (.assign (.const (.slice none 0 0)))])
 (.seq (.seq (Rg [0,1,2,7,8,10] [Ac 11 0])
 (.block 0 (.loop 9 none (some [0,1,2,7,8,10,11]))))
 (.seq (.seq (Rg [0,1,2,7,8,10] [Mv 99 0,Mv 100 10,Ca 101 32 [T 99,T 100] vB,Ol 102 (.unOp .not 4 (T 101))])
 (.cond (T 102) (.seq (Rg [] [Ol 6 (.assign (.const (.bool false)))])
 .ret)
 .skip))
 (.seq (Rg [0,1,2,7,8,10] [Mv 104 0,Mv 105 10,Ca 106 27 [T 104,T 105] (some (.tup [.one .slice,.one .slice,.one (.int .i64)])),Mv 103 106,Ex 107 103 0,Ex 108 103 1,Ex 109 103 2,As 12 107,As 13 108,As 14 109])
 (.seq (Rg [0,1,2,7,8,12,13,14] [Mv 111 0,Ca 112 14 [T 111] (some (.tup [.one .slice,.one (.int .i64)])),Mv 110 112,Ex 113 110 0,Ex 114 110 1,As 15 113,As 16 114])
 (.seq (.seq (Rg [0,1,2,7,8,12,13,14,15,16] [Mv 115 14,Bc 116 .neq 23 115 .i64 0,Mv 117 116,Gf 118 117 (.move (T 16)),Gf 119 117 (.binOp .neq 23 (T 118) (Ci 0) 23),Ol 120 (.pick (T 117) (.const (.bool true)) (T 119)),Mv 121 120,Gf 122 121 (.move (T 12)),Hf 123 121 (.lenS (T 122)),Gf 124 121 (.move (T 0)),Hf 125 121 (.lenS (T 124)),Gf 126 121 (.binOp .neq 3 (T 123) (T 125) 3),Ol 127 (.pick (T 121) (.const (.bool true)) (T 126)),Mv 128 127,Gf 129 128 (.move (T 13)),Hf 130 128 (.lenS (T 129)),Gf 131 128 (.move (T 2)),Hf 132 128 (.lenS (T 131)),Gf 133 128 (.binOp .neq 3 (T 130) (T 132) 3),Ol 134 (.pick (T 128) (.const (.bool true)) (T 133))])
 (.cond (T 134) (.seq (Rg [] [Ol 6 (.assign (.const (.bool false)))])
 .ret)
 .skip))
 (.seq (Rg [0,1,2,7,8,12,13,15] [Ol 17 (.assign (.const (.slice none 0 0)))])
 (.seq (.seq (Rg [0,1,2,7,8,12,13,15,17] [Ac 18 0])
 (.block 2 (.loop 22 (some [0,1,2,7,8,12,13,15,17,18]) (some [0,1,2,7,8,12,13,15,17,18]))))
 (.seq (.seq (Rg [0,2,7,8,12,13,15,17] [Ac 21 0])
 (.block 4 (.loop 27 (some [0,2,7,8,12,13,15,17,21]) (some [0,2,7,8,12,13,15,17,21]))))
 (.seq (.seq (Rg [0,7,8,12,13,15,17] [Ac 24 0])
 (.block 6 (.loop 32 none (some [0,7,8,12,13,15,17,24]))))
 (.seq (.seq (Rg [0,7,8,12,13,15,17] [Mv 193 15,Mv 194 17,Ca 195 26 [T 193,T 194] vB,Ol 196 (.unOp .not 4 (T 195))])
 (.cond (T 196) (.seq (Rg [] [Ol 6 (.assign (.const (.bool false)))])
 .ret)
 .skip))
 (.seq (.seq (Rg [0,7,8,12,13] [Mv 197 12,Ca 198 34 [T 197] vB,Ol 199 (.unOp .not 4 (T 198)),Mv 200 199,Gf 201 200 (.move (T 13)),⟨some 202,some (200,false),.call (.func 34) [T 201] vB⟩,Gf 203 200 (.unOp .not 4 (T 202)),Ol 204 (.pick (T 200) (.const (.bool true)) (T 203))])
 (.cond (T 204) (.seq (Rg [7] [Mv 205 7,As 6 205])
 .ret)
 .skip))
 (.seq (Rg [0,7,8,12,13] [Mv 207 0,Mv 208 12,Mv 209 13,Ca 210 30 [T 207,T 208,T 209] (some (.tup [.one .slice,.one (.int .i64)])),Mv 206 210,Ex 211 206 0,Ex 212 206 1,As 25 211,As 26 212])
 (.seq (Rg [7,8,25,26] [Mv 213 7,Mv 214 213,Gt 215 214 (.move (T 26)),Gt 216 214 (.binOp .eql 23 (T 215) (Ci 0) 23),Ol 217 (.pick (T 214) (T 216) (.const (.bool false))),Mv 218 217,Gt 219 218 (.move (T 8)),Gt 220 218 (.move (T 25)),⟨some 221,some (218,true),.call (.func 28) [T 219,T 220] vB⟩,Ol 222 (.pick (T 218) (T 221) (.const (.bool false))),As 6 222])
 .ret)))))))))))))))))),
 [.tmp 6],
 [(9,⟨none,some [0,1,2,7,8,10,11],.seq (.seq (Rg [0,1,2,7,8,10,11] [Mv 62 11,Mv 63 8,Ro 64 (.lenS (T 63)),Bt 65 .lss 3 62 64])
 (.cond (T 65) .skip
 (.exit 0 (some [0,1,2,7,8,10]))))
 (.seq (.block 1 (.seq (.seq (Rg [0,1,2,7,8,10,11] [Mv 68 8,Mv 69 11,Ix 70 2 68 69,Fa 71 1 70,L1 72 71,Bc 73 .neq 2 72 .i64 1,Mv 74 73,Gf 75 74 (.move (T 8)),Gf 76 74 (.move (T 11)),Hf 77 74 (.ixS 2 (T 75) (T 76)),Hf 78 74 (.fieldAddr 0 (T 77)),Hf 79 74 (.load1 (.int .i64) (T 78)),Gf 80 74 (.binOp .lss 2 (T 79) (.const (.int .i64 (-99))) 2),Ol 81 (.pick (T 74) (.const (.bool true)) (T 80)),Mv 82 81,Gf 83 82 (.move (T 8)),Gf 84 82 (.move (T 11)),Hf 85 82 (.ixS 2 (T 83) (T 84)),Hf 86 82 (.fieldAddr 0 (T 85)),Hf 87 82 (.load1 (.int .i64) (T 86)),Gf 88 82 (.binOp .gtr 2 (T 87) (Ci 99) 2),Ol 89 (.pick (T 82) (.const (.bool true)) (T 88))])
 (.cond (T 89) (.seq (Rg [7] [Mv 90 7,As 6 90])
 .ret)
 .skip))
 (Rg [0,1,2,7,8,10,11] [Mv 91 10,Mv 92 8,Mv 93 11,Ix 94 2 92 93,Fa 95 0 94,L1 96 95,Ro 97 (.buildSlice 1 1 [.int .i64 0] [(0,1,(T 96))]),⟨some 98,none,.op false (.old (.call ⟨.builtin .append,#[T 91,T 97],#[22,22]⟩))⟩,As 10 98])))
 (Rg [0,1,2,7,8,10,11] [Mv 66 11,Bc 67 .add 3 66 .i64 1,As 11 67]))⟩),(22,⟨some [0,1,2,7,8,12,13,15,17,18],some [0,1,2,7,8,12,13,15,17,18],.seq (.seq (Rg [0,1,2,7,8,12,13,15,17,18] [Mv 135 18,Mv 136 12,Ro 137 (.lenS (T 136)),Bt 138 .lss 3 135 137])
 (.cond (T 138) .skip
 (.exit 2 (some [0,2,7,8,12,13,15,17]))))
 (.seq (.block 3 (.seq (.draw (some [0,1,2,7,8,12,13,15,17,18]) 15 [Dr (Mv 142 1) 0 [2,3,8,9,10,11,13,14],Dr (Mv 143 18) 1 [2,3,8,9,10,11,13,14],Dr (Ix 144 2 142 143) 2 [3,8,9,10,11,13,14],Db (Ld 145 144) 3 144 [8,9,10,11,13,14],Dr (Mv 146 12) 4 [6,7,8,9,10,11,13,14],Dr (Mv 147 18) 5 [6,7,8,9,10,11,13,14],Dr (Ix 148 2 146 147) 6 [7,8,9,10,11,13,14],Db (Ld 149 148) 7 148 [8,9,10,11,13,14],⟨Nw 19 2 z2,12,.new true,[13,14],false,true⟩,⟨Ca 150 33 [T 145,T 149] (some (.tup [.agg s2,.one (.int .i64)])),8,.all,[9,10,11,13,14],false,false⟩,Dr (Mv 141 150) 9 [10,11,13,14],Dr (Ex 151 141 0) 10 [13,14],Dr (Ex 152 141 1) 11 [14],⟨Sr 2 19 151,13,.blk (T 19),[14],true,true⟩,Dr (As 20 152) 14 []])
 (Rg [0,1,2,7,8,12,13,15,17,18,19] [Mv 153 17,Ld 154 19,Ro 155 (.buildSlice 2 1 z2 [(0,2,(T 154))]),⟨some 156,none,.op false (.old (.call ⟨.builtin .append,#[T 153,T 155],#[50,50]⟩))⟩,As 17 156])))
 (Rg [0,1,2,7,8,12,13,15,17,18] [Mv 139 18,Bc 140 .add 3 139 .i64 1,As 18 140]))⟩),(27,⟨some [0,2,7,8,12,13,15,17,21],some [0,2,7,8,12,13,15,17,21],.seq (.seq (Rg [0,2,7,8,12,13,15,17,21] [Mv 157 21,Mv 158 13,Ro 159 (.lenS (T 158)),Bt 160 .lss 3 157 159])
 (.cond (T 160) .skip
 (.exit 4 (some [0,7,8,12,13,15,17]))))
 (.seq (.block 5 (.seq (.draw (some [0,2,7,8,12,13,15,17,21]) 15 [Dr (Mv 164 2) 0 [2,3,8,9,10,11,13,14],Dr (Mv 165 21) 1 [2,3,8,9,10,11,13,14],Dr (Ix 166 2 164 165) 2 [3,8,9,10,11,13,14],Db (Ld 167 166) 3 166 [8,9,10,11,13,14],Dr (Mv 168 13) 4 [6,7,8,9,10,11,13,14],Dr (Mv 169 21) 5 [6,7,8,9,10,11,13,14],Dr (Ix 170 2 168 169) 6 [7,8,9,10,11,13,14],Db (Ld 171 170) 7 170 [8,9,10,11,13,14],⟨Nw 22 2 z2,12,.new true,[13,14],false,true⟩,⟨Ca 172 33 [T 167,T 171] (some (.tup [.agg s2,.one (.int .i64)])),8,.all,[9,10,11,13,14],false,false⟩,Dr (Mv 163 172) 9 [10,11,13,14],Dr (Ex 173 163 0) 10 [13,14],Dr (Ex 174 163 1) 11 [14],⟨Sr 2 22 173,13,.blk (T 22),[14],true,true⟩,Dr (As 23 174) 14 []])
 (Rg [0,2,7,8,12,13,15,17,21,22] [Mv 175 17,Ld 176 22,Ro 177 (.buildSlice 2 1 z2 [(0,2,(T 176))]),⟨some 178,none,.op false (.old (.call ⟨.builtin .append,#[T 175,T 177],#[50,50]⟩))⟩,As 17 178])))
 (Rg [0,2,7,8,12,13,15,17,21] [Mv 161 21,Bc 162 .add 3 161 .i64 1,As 21 162]))⟩),(32,⟨none,some [0,7,8,12,13,15,17,24],.seq (.seq (Rg [0,7,8,12,13,15,17,24] [Mv 179 24,Mv 180 15,Ro 181 (.lenS (T 180)),Bt 182 .lss 3 179 181])
 (.cond (T 182) .skip
 (.exit 6 (some [0,7,8,12,13,15,17]))))
 (.seq (.block 7 (.seq (Rg [0,7,8,12,13,15,17,24] [Mv 185 15,Mv 186 24,Ix 187 1 185 186,Ro 188 (.load1 .slice (T 187)),Ro 189 (.lenS (T 188)),Mv 190 17,Ro 191 (.lenS (T 190)),Bt 192 .neq 3 189 191])
 (.cond (T 192) (.seq (Rg [] [Ol 6 (.assign (.const (.bool false)))])
 .ret)
 .skip)))
 (Rg [0,7,8,12,13,15,17,24] [Mv 183 24,Bc 184 .add 3 183 .i64 1,As 24 184]))⟩)],
 []⟩
theorem r9_ok:resFun (progU ()) hint live 9 Try.f9=some r9:=by kernel_rfl
def r10 : RFun :=
⟨.seq (Rg [0] [Ol 2 (.assign (.const (.slice none 0 0))),Ac 3 0])
 (.seq (.seq (Rg [0] [Mv 5 0,Ca 6 18 [T 5] vI,As 4 6])
 (.seq (Rg [0,4] [Mv 7 4,Bc 8 .neq 23 7 .i64 0])
 (.cond (T 8) (.seq (Rg [4] [Mv 9 4,Ol 2 (.assign (.const (.slice none 0 0))),As 3 9])
 .ret)
 .skip)))
 (.seq (Rg [0] [Mv 10 0,Ca 11 35 [T 10] (some (.val (.one .slice))),As 2 11,Ac 3 0])
 .ret)),
 [.tmp 2,.tmp 3],
 [],
 []⟩
theorem r10_ok:resFun (progU ()) hint live 10 Try.f10=some r10:=by kernel_rfl
def r11 : RFun :=
⟨.seq (Rg [0] [Ol 2 (.assign (.const (.slice none 0 0))),Ac 3 0])
 (.seq (.seq (Rg [0] [Mv 4 0,Ca 5 19 [T 4] vI,Bc 6 .neq 3 5 .i64 0])
 (.cond (T 6) (.seq (Rg [0] [Mv 7 0,Ca 8 19 [T 7] vI,Ol 2 (.assign (.const (.slice none 0 0))),As 3 8])
 .ret)
 .skip))
 (.seq (Rg [0] [Mv 9 0,Ca 10 36 [T 9] (some (.val (.one .slice))),As 2 10,Ac 3 0])
 .ret)),
 [.tmp 2,.tmp 3],
 [],
 []⟩
def r14 : RFun :=
⟨.seq (Rg [0] [Ol 2 (.assign (.const (.slice none 0 0))),Ac 3 0])
 (.seq (.seq (Rg [0] [Mv 5 0,Ca 6 18 [T 5] vI,As 4 6])
 (.seq (Rg [0,4] [Mv 7 4,Bc 8 .neq 23 7 .i64 0])
 (.cond (T 8) (.seq (Rg [4] [Mv 9 4,Ol 2 (.assign (.const (.slice none 0 0))),As 3 9])
 .ret)
 .skip)))
 (.seq (Rg [0] [Mv 10 0,Ca 11 39 [T 10] (some (.val (.one .slice))),As 2 11,Ac 3 0])
 .ret)),
 [.tmp 2,.tmp 3],
 [],
 []⟩
theorem r14_ok:resFun (progU ()) hint live 14 Try.f14=some r14:=by kernel_rfl
def r18 : RFun :=
⟨.seq (Rg [0] [Ac 2 0])
 (.seq (.seq (Rg [0] [Mv 5 0,Ro 6 (.lenS (T 5)),Bc 7 .gtr 3 6 .i64 5])
 (.cond (T 7) (.seq (Rg [] [Ac 2 4])
 .ret)
 .skip))
 (.seq (.seq (Rg [0] [Mv 8 0,Ro 9 (.lenS (T 8)),Bc 10 .lss 3 9 .i64 2])
 (.cond (T 10) (.seq (Rg [] [Ac 2 8])
 .ret)
 .skip))
 (.seq (.seq (Rg [0] [Mv 11 0,Ro 12 (.lenS (T 11)),Ol 13 (.move (Ci 0))])
 (.block 0 (.loop 6 none (some [0,11,12,13]))))
 (.seq (Rg [] [Ac 2 0])
 .ret)))),
 [.tmp 2],
 [(6,⟨none,some [0,11,12,13],.seq (Rg [0,11,12,13] [Bt 14 .lss 3 13 12])
 (.seq (.cond (T 14) .skip
 (.exit 0 (some [])))
 (.seq (.block 1 (.seq (Rg [0,11,12,13] [Mv 15 13,Ix 16 1 11 13,L1 17 16,As 3 15,As 4 17])
 (.seq (Rg [0,3,4,11,12,13] [Mv 18 4,Bc 19 .lss 3 18 .i64 0,Mv 20 19,Gf 21 20 (.move (T 4)),Gf 22 20 (.binOp .gtr 3 (T 21) (Ci 31) 3),Ol 23 (.pick (T 20) (.const (.bool true)) (T 22)),Mv 24 23,Gf 25 24 (.move (T 3)),Gf 26 24 (.binOp .gtr 3 (T 25) (Ci 0) 3),Gf 27 24 (.move (T 26)),Gt 28 27 (.move (T 4)),Gt 29 27 (.move (T 0)),Gt 30 27 (.move (T 3)),Gt 31 27 (.binOp .sub 3 (T 30) (Ci 1) 3),Ht 32 27 (.ixS 1 (T 29) (T 31)),Ht 33 27 (.load1 (.int .i64) (T 32)),Gt 34 27 (.binOp .leq 3 (T 28) (T 33) 3),Gf 35 24 (.pick (T 27) (T 34) (.const (.bool false))),Ol 36 (.pick (T 24) (.const (.bool true)) (T 35))])
 (.cond (T 36) (.seq (Rg [] [Ac 2 8])
 .ret)
 .skip))))
 (Rg [0,11,12,13] [Bc 37 .add 3 13 .i64 1,Mv 13 37])))⟩)],
 []⟩
theorem r18_ok:resFun (progU ()) hint live 18 Try.f18=some r18:=by kernel_rfl
def r19 : RFun :=
⟨.seq (Rg [0] [Ac 2 0])
 (.seq (.seq (Rg [0] [Mv 4 0,Ro 5 (.lenS (T 4)),Bc 6 .gtr 3 5 .i64 5])
 (.cond (T 6) (.seq (Rg [] [Ac 2 4])
 .ret)
 .skip))
 (.seq (.seq (Rg [0] [Mv 7 0,Ro 8 (.lenS (T 7)),Bc 9 .lss 3 8 .i64 2])
 (.cond (T 9) (.seq (Rg [] [Ac 2 8])
 .ret)
 .skip))
 (.seq (.seq (Rg [0] [Ac 3 0])
 (.block 0 (.loop 6 (some [0,3]) (some [0,3]))))
 (.seq (Rg [] [Ac 2 0])
 .ret)))),
 [.tmp 2],
 [(6,⟨some [0,3],some [0,3],.seq (.seq (Rg [0,3] [Mv 10 3,Mv 11 0,Ro 12 (.lenS (T 11)),Bt 13 .lss 3 10 12])
 (.cond (T 13) .skip
 (.exit 0 (some []))))
 (.seq (.block 1 (.seq (.draw (some [0,3]) 28 [Dr (Mv 16 0) 0 [2,3,4,5,6,7,8,9,10,11,12,13,14,15,16,17,18,19,20,21,22,23,24,25,26,27],Dr (Mv 17 3) 1 [2,3,4,5,6,7,8,9,10,11,12,13,14,15,16,17,18,19,20,21,22,23,24,25,26,27],Dr (Ix 18 1 16 17) 2 [3,4,5,6,7,8,9,10,11,12,13,14,15,16,17,18,19,20,21,22,23,24,25,26,27],Db (L1 19 18) 3 18 [4,5,6,7,8,9,10,11,12,13,14,15,16,17,18,19,20,21,22,23,24,25,26,27],Dr (Bc 20 .lss 3 19 .i64 0) 4 [5,6,7,8,9,10,11,12,13,14,15,16,17,18,19,20,21,22,23,24,25,26,27],Dr (Mv 21 20) 5 [6,7,8,9,10,11,12,13,14,15,16,17,18,19,20,21,22,23,24,25,26,27],⟨Gf 22 21 (.move (T 0)),6,.none,[8,9,10,11,12,13,14,15,16,17,18,19,20,21,22,23,24,25,26,27],false,true⟩,⟨Gf 23 21 (.move (T 3)),7,.none,[8,9,10,11,12,13,14,15,16,17,18,19,20,21,22,23,24,25,26,27],false,true⟩,⟨Hf 24 21 (.ixS 1 (T 22) (T 23)),8,.none,[9,10,11,12,13,14,15,16,17,18,19,20,21,22,23,24,25,26,27],false,true⟩,⟨Hf 25 21 (.load1 (.int .i64) (T 24)),9,.blk (T 24),[10,11,12,13,14,15,16,17,18,19,20,21,22,23,24,25,26,27],false,true⟩,⟨Gf 26 21 (.binOp .gtr 3 (T 25) (Ci 31) 3),10,.none,[11,12,13,14,15,16,17,18,19,20,21,22,23,24,25,26,27],false,true⟩,Dr (Ol 27 (.pick (T 21) (.const (.bool true)) (T 26))) 11 [12,13,14,15,16,17,18,19,20,21,22,23,24,25,26,27],Dr (Mv 28 27) 12 [13,14,15,16,17,18,19,20,21,22,23,24,25,26,27],⟨Gf 29 28 (.move (T 3)),13,.none,[14,15,16,17,18,19,20,21,22,23,24,25,26,27],false,true⟩,⟨Gf 30 28 (.binOp .gtr 3 (T 29) (Ci 0) 3),14,.none,[15,16,17,18,19,20,21,22,23,24,25,26,27],false,true⟩,⟨Gf 31 28 (.move (T 30)),15,.none,[16,17,18,19,20,21,22,23,24,25,26,27],false,true⟩,⟨Gt 32 31 (.move (T 0)),16,.none,[18,19,25,26,27],false,true⟩,⟨Gt 33 31 (.move (T 3)),17,.none,[18,19,25,26,27],false,true⟩,⟨Ht 34 31 (.ixS 1 (T 32) (T 33)),18,.none,[19,25,26,27],false,true⟩,⟨Ht 35 31 (.load1 (.int .i64) (T 34)),19,.blk (T 34),[25,26,27],false,true⟩,⟨Gt 36 31 (.move (T 0)),20,.none,[23,24,25,26,27],false,true⟩,⟨Gt 37 31 (.move (T 3)),21,.none,[22,23,24,25,26,27],false,true⟩,⟨Gt 38 31 (.binOp .sub 3 (T 37) (Ci 1) 3),22,.none,[23,24,25,26,27],false,true⟩,⟨Ht 39 31 (.ixS 1 (T 36) (T 38)),23,.none,[24,25,26,27],false,true⟩,⟨Ht 40 31 (.load1 (.int .i64) (T 39)),24,.blk (T 39),[25,26,27],false,true⟩,⟨Gt 41 31 (.binOp .leq 3 (T 35) (T 40) 3),25,.none,[26,27],false,true⟩,⟨Gf 42 28 (.pick (T 31) (T 41) (.const (.bool false))),26,.none,[27],false,true⟩,Dr (Ol 43 (.pick (T 28) (.const (.bool true)) (T 42))) 27 []])
 (.cond (T 43) (.seq (Rg [] [Ac 2 8])
 .ret)
 .skip)))
 (Rg [0,3] [Mv 14 3,Bc 15 .add 3 14 .i64 1,As 3 15]))⟩)],
 []⟩
theorem r19_ok:resFun (progU ()) hint live 19 Try.f19=some r19:=by kernel_rfl
def r20 : RFun :=
⟨.seq (Rg [0,1] [Ol 4 (.assign (.const (.bool false)))])
 (.seq (.seq (Rg [0,1] [Mv 6 0,Ro 7 (.lenS (T 6)),Mv 8 1,Ro 9 (.lenS (T 8)),Bt 10 .neq 3 7 9])
 (.cond (T 10) (.seq (Rg [] [Ol 4 (.assign (.const (.bool false)))])
 .ret)
 .skip))
 (.seq (.seq (Rg [0,1] [Ac 5 0])
 (.block 0 (.loop 4 (some [0,1,5]) (some [0,1,5]))))
 (.seq (Rg [] [Ol 4 (.assign (.const (.bool true)))])
 .ret))),
 [.tmp 4],
 [(4,⟨some [0,1,5],some [0,1,5],.seq (.seq (Rg [0,1,5] [Mv 11 5,Mv 12 0,Ro 13 (.lenS (T 12)),Bt 14 .lss 3 11 13])
 (.cond (T 14) .skip
 (.exit 0 (some []))))
 (.seq (.block 1 (.seq (.draw (some [0,1,5]) 9 [Dr (Mv 17 0) 0 [2,3,8],Dr (Mv 18 5) 1 [2,3,8],Dr (Ix 19 1 17 18) 2 [3,8],Db (L1 20 19) 3 19 [8],Dr (Mv 21 1) 4 [6,7,8],Dr (Mv 22 5) 5 [6,7,8],Dr (Ix 23 1 21 22) 6 [7,8],Db (L1 24 23) 7 23 [8],Dr (Bt 25 .neq 3 20 24) 8 []])
 (.cond (T 25) (.seq (Rg [] [Ol 4 (.assign (.const (.bool false)))])
 .ret)
 .skip)))
 (Rg [0,1,5] [Mv 15 5,Bc 16 .add 3 15 .i64 1,As 5 16]))⟩)],
 []⟩
theorem r20_ok:resFun (progU ()) hint live 20 Try.f20=some r20:=by kernel_rfl
