import Derived.Test.YtmkiclinllifiaaSeat0
import Derived.Test.YtmkiclinllifiaaSymS
set_option linter.unusedSimpArgs false
set_option linter.unusedVariables false
namespace Go.Proofs.Ytmkiclinllifiaa
open Go.Sim
set_option maxRecDepth 100000
def r7 : RFun :=
⟨.seq (Rg [0,1,2] [Ol 6 (.assign (.const (.bool false)))])
 (.seq (Rg [0,1,2] [Ca 22 21 [] vB,As 7 22])
 (.seq (.seq (Rg [0,1,2,7] [Mv 23 0,Ca 24 22 [T 23] vI,Bc 25 .neq 3 24 .i64 0,Mv 26 25,Gf 27 26 (.move (T 7)),Gf 28 26 (.unOp .not 4 (T 27)),Ol 29 (.pick (T 26) (.const (.bool true)) (T 28))])
 (.cond (T 29) (.seq (Rg [7] [Mv 30 7,As 6 30])
 .ret)
 .skip))
 (.seq (Rg [0,1,2,7] [Mv 32 0,Mv 33 1,Mv 34 2,Ca 35 16 [T 32,T 33,T 34] (some (.tup [.one .slice,.one (.int .i64)])),Mv 31 35,Ex 36 31 0,Ex 37 31 1,As 8 36,As 9 37])
 (.seq (Rg [0,1,2,7,8,9] [Mv 39 0,Mv 40 2,Mv 41 1,Ca 42 16 [T 39,T 40,T 41] (some (.tup [.one .slice,.one (.int .i64)])),Mv 38 42,Ex 43 38 0,Ex 44 38 1,As 10 43,As 11 44])
 (.seq (Rg [0,1,2,7,8,9,10,11] [Mv 46 0,Ca 47 10 [T 46] (some (.tup [.one .slice,.one (.int .i64),.one (.int .i64)])),Mv 45 47,Ex 48 45 0,Ex 49 45 1,Ex 50 45 2,As 12 48,As 13 49,As 14 50])
 (.seq (.seq (Rg [0,1,2,7,8,9,10,11,12,14] [Mv 51 9,Mv 52 11,Bt 53 .neq 24 51 52,Mv 54 53,Gf 55 54 (.move (T 14)),Gf 56 54 (.binOp .neq 24 (T 55) (Ci 0) 24),Ol 57 (.pick (T 54) (.const (.bool true)) (T 56)),Mv 58 57,Gf 59 58 (.move (T 8)),Hf 60 58 (.lenS (T 59)),Gf 61 58 (.move (T 10)),Hf 62 58 (.lenS (T 61)),Gf 63 58 (.binOp .neq 3 (T 60) (T 62) 3),Ol 64 (.pick (T 58) (.const (.bool true)) (T 63))])
 (.cond (T 64) (.seq (Rg [] [Ol 6 (.assign (.const (.bool false)))])
 .ret)
 .skip))
 (.seq (.seq (Rg [0,1,2,7,8,9,10,12] [Mv 65 9,Bc 66 .eql 24 65 .i64 2])
 (.cond (T 66) (.seq (Rg [0,1,2,7] [Mv 67 7,Mv 68 67,Gt 69 68 (.move (T 0)),Gt 70 68 (.move (T 1)),⟨some 71,some (68,true),.call (.func 27) [T 69,T 70] vB⟩,Gt 72 68 (.move (T 71)),Gt 73 72 (.move (T 0)),Gt 74 72 (.move (T 2)),⟨some 75,some (72,true),.call (.func 27) [T 73,T 74] vB⟩,Gt 76 68 (.pick (T 72) (T 75) (.const (.bool false))),Gt 77 68 (.unOp .not 4 (T 76)),Ol 78 (.pick (T 68) (T 77) (.const (.bool false))),As 6 78])
 .ret)
 .skip))
 (.seq (Rg [0,1,2,7,8,9,10,12] [Ro 79 (.mkSlice 1 [.int .i64 0] (Ci 8) (Ci 8)),As 15 79])
 (.seq (.seq (Rg [0,1,2,7,8,9,10,12,15] [Ac 16 0])
 (.block 0 (.loop 13 none (some [0,1,2,7,8,9,10,12,15,16]))))
 (.seq (.seq (Rg [0,1,2,7,8,9,10,12,15] [Ac 17 0])
 (.block 2 (.loop 17 (some [0,1,2,7,8,9,10,12,15,17]) (some [0,1,2,7,8,9,10,12,15,17]))))
 (.seq (.seq (.draw (some [1,2,7,8,9,10,12,15]) 32 [Dr (Mv 141 1) 0 [1,2,3,4,5,6,7,8,9,10,11,12,13,14,15,16,17,18,19,20,21,22,23,24,25,26,27,28,29,30,31],Dr (Bc 142 .lss 3 141 .i64 0) 1 [2,3,4,5,6,7,8,9,10,11,12,13,14,15,16,17,18,19,20,21,22,23,24,25,26,27,28,29,30,31],Dr (Mv 143 142) 2 [3,4,5,6,7,8,9,10,11,12,13,14,15,16,17,18,19,20,21,22,23,24,25,26,27,28,29,30,31],⟨Gf 144 143 (.move (T 2)),3,.none,[4,5,6,7,8,9,10,11,12,13,14,15,16,17,18,19,20,21,22,23,24,25,26,27,28,29,30,31],false,true⟩,⟨Gf 145 143 (.binOp .lss 3 (T 144) (Ci 0) 3),4,.none,[5,6,7,8,9,10,11,12,13,14,15,16,17,18,19,20,21,22,23,24,25,26,27,28,29,30,31],false,true⟩,Dr (Ol 146 (.pick (T 143) (.const (.bool true)) (T 145))) 5 [6,7,8,9,10,11,12,13,14,15,16,17,18,19,20,21,22,23,24,25,26,27,28,29,30,31],Dr (Mv 147 146) 6 [7,8,9,10,11,12,13,14,15,16,17,18,19,20,21,22,23,24,25,26,27,28,29,30,31],⟨Gf 148 147 (.move (T 1)),7,.none,[10,11,12,13,14,15,16,17,18,19,20,21,22,23,24,25,26,27,28,29,30,31],false,true⟩,⟨Gf 149 147 (.move (T 15)),8,.none,[9,10,11,12,13,14,15,16,17,18,19,20,21,22,23,24,25,26,27,28,29,30,31],false,true⟩,⟨Hf 150 147 (.lenS (T 149)),9,.none,[10,11,12,13,14,15,16,17,18,19,20,21,22,23,24,25,26,27,28,29,30,31],false,true⟩,⟨Gf 151 147 (.binOp .geq 3 (T 148) (T 150) 3),10,.none,[11,12,13,14,15,16,17,18,19,20,21,22,23,24,25,26,27,28,29,30,31],false,true⟩,Dr (Ol 152 (.pick (T 147) (.const (.bool true)) (T 151))) 11 [12,13,14,15,16,17,18,19,20,21,22,23,24,25,26,27,28,29,30,31],Dr (Mv 153 152) 12 [13,14,15,16,17,18,19,20,21,22,23,24,25,26,27,28,29,30,31],⟨Gf 154 153 (.move (T 2)),13,.none,[16,17,18,19,20,21,22,23,24,25,26,27,28,29,30,31],false,true⟩,⟨Gf 155 153 (.move (T 15)),14,.none,[15,16,17,18,19,20,21,22,23,24,25,26,27,28,29,30,31],false,true⟩,⟨Hf 156 153 (.lenS (T 155)),15,.none,[16,17,18,19,20,21,22,23,24,25,26,27,28,29,30,31],false,true⟩,⟨Gf 157 153 (.binOp .geq 3 (T 154) (T 156) 3),16,.none,[17,18,19,20,21,22,23,24,25,26,27,28,29,30,31],false,true⟩,Dr (Ol 158 (.pick (T 153) (.const (.bool true)) (T 157))) 17 [18,19,20,21,22,23,24,25,26,27,28,29,30,31],Dr (Mv 159 158) 18 [19,20,21,22,23,24,25,26,27,28,29,30,31],⟨Gf 160 159 (.move (T 9)),19,.none,[20,30,31],false,true⟩,⟨Gf 161 159 (.binOp .eql 24 (T 160) (Ci 0) 24),20,.none,[30,31],false,true⟩,⟨Gf 162 159 (.move (T 15)),21,.none,[23,24,29,30,31],false,true⟩,⟨Gf 163 159 (.move (T 1)),22,.none,[23,24,29,30,31],false,true⟩,⟨Hf 164 159 (.ixS 1 (T 162) (T 163)),23,.none,[24,29,30,31],false,true⟩,⟨Hf 165 159 (.load1 (.int .i64) (T 164)),24,.blk (T 164),[29,30,31],false,true⟩,⟨Gf 166 159 (.move (T 15)),25,.none,[27,28,29,30,31],false,true⟩,⟨Gf 167 159 (.move (T 2)),26,.none,[27,28,29,30,31],false,true⟩,⟨Hf 168 159 (.ixS 1 (T 166) (T 167)),27,.none,[28,29,30,31],false,true⟩,⟨Hf 169 159 (.load1 (.int .i64) (T 168)),28,.blk (T 168),[29,30,31],false,true⟩,⟨Gf 170 159 (.binOp .eql 3 (T 165) (T 169) 3),29,.none,[30,31],false,true⟩,⟨Gf 171 159 (.binOp .neq 4 (T 161) (T 170) 4),30,.none,[31],false,true⟩,Dr (Ol 172 (.pick (T 159) (.const (.bool true)) (T 171))) 31 []])
 (.cond (T 172) (.seq (Rg [] [Ol 6 (.assign (.const (.bool false)))])
 .ret)
 .skip))
 (.seq (.seq (Rg [1,2,7,8,9,10,12] [Mv 173 9,Bc 174 .neq 24 173 .i64 0])
 (.cond (T 174) (.seq (Rg [7,9] [Mv 175 7,Mv 176 175,Gt 177 176 (.move (T 9)),Gt 178 176 (.binOp .eql 24 (T 177) (Ci 6) 24),Ol 179 (.pick (T 176) (T 178) (.const (.bool false))),As 6 179])
 .ret)
 .skip))
 (.seq (.seq (Rg [1,2,7,8,10,12] [Mv 180 8,Ro 181 (.lenS (T 180)),Bc 182 .eql 3 181 .i64 0,Mv 183 182,Gf 184 183 (.move (T 8)),Hf 185 183 (.ixS 1 (T 184) (Ci 0)),Hf 186 183 (.load1 (.int .i64) (T 185)),Gf 187 183 (.move (T 1)),Gf 188 183 (.binOp .neq 3 (T 186) (T 187) 3),Ol 189 (.pick (T 183) (.const (.bool true)) (T 188)),Mv 190 189,Gf 191 190 (.move (T 8)),Gf 192 190 (.move (T 8)),Hf 193 190 (.lenS (T 192)),Gf 194 190 (.binOp .sub 3 (T 193) (Ci 1) 3),Hf 195 190 (.ixS 1 (T 191) (T 194)),Hf 196 190 (.load1 (.int .i64) (T 195)),Gf 197 190 (.move (T 2)),Gf 198 190 (.binOp .neq 3 (T 196) (T 197) 3),Ol 199 (.pick (T 190) (.const (.bool true)) (T 198)),Mv 200 199,Gf 201 200 (.move (T 8)),Hf 202 200 (.lenS (T 201)),Gf 203 200 (.binOp .gtr 3 (T 202) (Ci 8) 3),Ol 204 (.pick (T 200) (.const (.bool true)) (T 203)),Mv 205 204,Gf 206 205 (.move (T 8)),⟨some 207,some (205,false),.call (.func 31) [T 206] vB⟩,Gf 208 205 (.unOp .not 4 (T 207)),Ol 209 (.pick (T 205) (.const (.bool true)) (T 208))])
 (.cond (T 209) (.seq (Rg [] [Ol 6 (.assign (.const (.bool false)))])
 .ret)
 .skip))
 (.seq (.seq (Rg [7,8,10,12] [Ac 19 0])
 (.block 6 (.loop 31 (some [7,8,10,12,19]) (some [7,8,10,12,19]))))
 (.seq (Rg [7] [Mv 268 7,As 6 268])
 .ret))))))))))))))),
 [.tmp 6],
 [(13,⟨none,some [0,1,2,7,8,9,10,12,15,16],.seq (.seq (Rg [0,1,2,7,8,9,10,12,15,16] [Mv 80 16,Mv 81 15,Ro 82 (.lenS (T 81)),Bt 83 .lss 3 80 82])
 (.cond (T 83) .skip
 (.exit 0 (some [0,1,2,7,8,9,10,12,15]))))
 (.seq (.block 1 (Rg [0,1,2,7,8,9,10,12,15,16] [Mv 86 15,Mv 87 16,Mv 88 16,Ix 89 1 86 87,Sr 1 89 88]))
 (Rg [0,1,2,7,8,9,10,12,15,16] [Mv 84 16,Bc 85 .add 3 84 .i64 1,As 16 85]))⟩),(17,⟨some [0,1,2,7,8,9,10,12,15,17],some [0,1,2,7,8,9,10,12,15,17],.seq (.seq (Rg [0,1,2,7,8,9,10,12,15,17] [Mv 90 17,Mv 91 15,Ro 92 (.lenS (T 91)),Bt 93 .lss 3 90 92])
 (.cond (T 93) .skip
 (.exit 2 (some [1,2,7,8,9,10,12,15]))))
 (.seq (.block 3 (.seq (Rg [0,1,2,7,8,9,10,12,15,17] [Ac 18 0])
 (.block 4 (.loop 20 (some [0,1,2,7,8,9,10,12,15,17,18]) (some [0,1,2,7,8,9,10,12,15,17,18])))))
 (Rg [0,1,2,7,8,9,10,12,15,17] [Mv 94 17,Bc 95 .add 3 94 .i64 1,As 17 95]))⟩),(20,⟨some [0,1,2,7,8,9,10,12,15,17,18],some [0,1,2,7,8,9,10,12,15,17,18],.seq (.seq (Rg [0,1,2,7,8,9,10,12,15,17,18] [Mv 96 18,Mv 97 0,Ro 98 (.lenS (T 97)),Bt 99 .lss 3 96 98])
 (.cond (T 99) .skip
 (.exit 4 (some [0,1,2,7,8,9,10,12,15,17]))))
 (.seq (.block 5 (.seq (.draw (some [0,1,2,7,8,9,10,12,15,17,18]) 25 [Dr (Mv 102 15) 0 [23,24],Dr (Mv 103 0) 1 [3,4,5,23,24],Dr (Mv 104 18) 2 [3,4,5,23,24],Dr (Ix 105 6 103 104) 3 [4,5,23,24],Dr (Fa 106 1 105) 4 [5,23,24],Db (L1 107 106) 5 106 [23,24],Dr (Mv 108 15) 6 [12,13,22,23,24],Dr (Mv 109 0) 7 [9,10,11,12,13,22,23,24],Dr (Mv 110 18) 8 [9,10,11,12,13,22,23,24],Dr (Ix 111 6 109 110) 9 [10,11,12,13,22,23,24],Dr (Fa 112 0 111) 10 [11,12,13,22,23,24],Db (L1 113 112) 11 112 [12,13,22,23,24],Dr (Ix 114 1 108 113) 12 [13,22,23,24],Db (L1 115 114) 13 114 [22,23,24],Dr (Mv 116 15) 14 [20,21,22,23,24],Dr (Mv 117 0) 15 [17,18,19,20,21,22,23,24],Dr (Mv 118 18) 16 [17,18,19,20,21,22,23,24],Dr (Ix 119 6 117 118) 17 [18,19,20,21,22,23,24],Dr (Fa 120 1 119) 18 [19,20,21,22,23,24],Db (L1 121 120) 19 120 [20,21,22,23,24],Dr (Ix 122 1 116 121) 20 [21,22,23,24],Db (L1 123 122) 21 122 [22,23,24],⟨⟨some 124,none,.op false (.old (.call ⟨.builtin .min,#[T 115,T 123],#[3,3]⟩))⟩,22,.none,[23,24],false,true⟩,Dr (Ix 125 1 102 107) 23 [24],⟨Sr 1 125 124,24,.blk (T 125),[],true,true⟩])
 (.draw (some [0,1,2,7,8,9,10,12,15,17,18]) 16 [Dr (Mv 126 15) 0 [14,15],Dr (Mv 127 0) 1 [3,4,5,14,15],Dr (Mv 128 18) 2 [3,4,5,14,15],Dr (Ix 129 6 127 128) 3 [4,5,14,15],Dr (Fa 130 0 129) 4 [5,14,15],Db (L1 131 130) 5 130 [14,15],Dr (Mv 132 15) 6 [12,13,14,15],Dr (Mv 133 0) 7 [9,10,11,12,13,14,15],Dr (Mv 134 18) 8 [9,10,11,12,13,14,15],Dr (Ix 135 6 133 134) 9 [10,11,12,13,14,15],Dr (Fa 136 1 135) 10 [11,12,13,14,15],Db (L1 137 136) 11 136 [12,13,14,15],Dr (Ix 138 1 132 137) 12 [13,14,15],Db (L1 139 138) 13 138 [14,15],Dr (Ix 140 1 126 131) 14 [15],⟨Sr 1 140 139,15,.blk (T 140),[],true,true⟩])))
 (Rg [0,1,2,7,8,9,10,12,15,17,18] [Mv 100 18,Bc 101 .add 3 100 .i64 1,As 18 101]))⟩),(31,⟨some [7,8,10,12,19],some [7,8,10,12,19],.seq (.seq (Rg [7,8,10,12,19] [Mv 210 19,Mv 211 8,Ro 212 (.lenS (T 211)),Bt 213 .lss 3 210 212])
 (.cond (T 213) .skip
 (.exit 6 (some [7]))))
 (.seq (.block 7 (.seq (.seq (.draw (some [7,8,10,12,19]) 13 [Dr (Mv 216 8) 0 [2,3,12],Dr (Mv 217 19) 1 [2,3,12],Dr (Ix 218 1 216 217) 2 [3,12],Db (L1 219 218) 3 218 [12],Dr (Mv 220 10) 4 [10,11,12],Dr (Mv 221 8) 5 [6,7,9,10,11,12],Dr (Ro 222 (.lenS (T 221))) 6 [7,9,10,11,12],Dr (Bc 223 .sub 3 222 .i64 1) 7 [9,10,11,12],Dr (Mv 224 19) 8 [9,10,11,12],Dr (Bt 225 .sub 3 223 224) 9 [10,11,12],Dr (Ix 226 1 220 225) 10 [11,12],Db (L1 227 226) 11 226 [12],Dr (Bt 228 .neq 3 219 227) 12 []])
 (.cond (T 228) (.seq (Rg [] [Ol 6 (.assign (.const (.bool false)))])
 .ret)
 .skip))
 (.seq (.seq (Rg [7,8,10,12,19] [Mv 229 19,Bc 230 .eql 3 229 .i64 0])
 (.cond (T 230) (.exit 7 (some [7,8,10,12,19]))
 .skip))
 (.seq (Rg [7,8,10,12,19] [Ol 20 (.assign (.const (.bool false)))])
 (.seq (.seq (Rg [7,8,10,12,19,20] [Ac 21 0])
 (.block 8 (.loop 38 (some [7,8,10,12,19,20,21]) (some [7,8,10,12,19,20,21]))))
 (.seq (Rg [7,8,10,12,19,20] [Mv 266 20,Ol 267 (.unOp .not 4 (T 266))])
 (.cond (T 267) (.seq (Rg [] [Ol 6 (.assign (.const (.bool false)))])
 .ret)
 .skip)))))))
 (Rg [7,8,10,12,19] [Mv 214 19,Bc 215 .add 3 214 .i64 1,As 19 215]))⟩),(38,⟨some [7,8,10,12,19,20,21],some [7,8,10,12,19,20,21],.seq (.seq (Rg [7,8,10,12,19,20,21] [Mv 231 21,Mv 232 12,Ro 233 (.lenS (T 232)),Bt 234 .lss 3 231 233])
 (.cond (T 234) .skip
 (.exit 8 (some [7,8,10,12,19,20]))))
 (.seq (.block 9 (.draw (some [7,8,10,12,19,20,21]) 30 [Dr (Mv 237 20) 0 [1,2,3,4,5,6,7,8,9,10,11,12,13,14,15,16,17,18,19,20,21,22,23,24,25,26,27,28,29],Dr (Mv 238 237) 1 [2,3,4,5,6,7,8,9,10,11,12,13,14,15,16,17,18,19,20,21,22,23,24,25,26,27,28,29],⟨Gf 239 238 (.move (T 12)),2,.none,[4,5,27,28,29],false,true⟩,⟨Gf 240 238 (.move (T 21)),3,.none,[4,5,27,28,29],false,true⟩,⟨Hf 241 238 (.ixS 2 (T 239) (T 240)),4,.none,[5,27,28,29],false,true⟩,⟨Hf 242 238 (.load 2 s2 (T 241)),5,.blk (T 241),[27,28,29],false,true⟩,⟨Gf 243 238 (.move (T 8)),6,.none,[9,10,15,26,27,28,29],false,true⟩,⟨Gf 244 238 (.move (T 19)),7,.none,[8,9,10,15,26,27,28,29],false,true⟩,⟨Gf 245 238 (.binOp .sub 3 (T 244) (Ci 1) 3),8,.none,[9,10,15,26,27,28,29],false,true⟩,⟨Hf 246 238 (.ixS 1 (T 243) (T 245)),9,.none,[10,15,26,27,28,29],false,true⟩,⟨Hf 247 238 (.load1 (.int .i64) (T 246)),10,.blk (T 246),[15,26,27,28,29],false,true⟩,⟨Gf 248 238 (.move (T 8)),11,.none,[13,14,15,26,27,28,29],false,true⟩,⟨Gf 249 238 (.move (T 19)),12,.none,[13,14,15,26,27,28,29],false,true⟩,⟨Hf 250 238 (.ixS 1 (T 248) (T 249)),13,.none,[14,15,26,27,28,29],false,true⟩,⟨Hf 251 238 (.load1 (.int .i64) (T 250)),14,.blk (T 250),[15,26,27,28,29],false,true⟩,⟨⟨some 252,some (238,false),.op false (.old (.call ⟨.builtin .min,#[T 247,T 251],#[3,3]⟩))⟩,15,.none,[26,27,28,29],false,true⟩,⟨Gf 253 238 (.move (T 8)),16,.none,[19,20,25,26,27,28,29],false,true⟩,⟨Gf 254 238 (.move (T 19)),17,.none,[18,19,20,25,26,27,28,29],false,true⟩,⟨Gf 255 238 (.binOp .sub 3 (T 254) (Ci 1) 3),18,.none,[19,20,25,26,27,28,29],false,true⟩,⟨Hf 256 238 (.ixS 1 (T 253) (T 255)),19,.none,[20,25,26,27,28,29],false,true⟩,⟨Hf 257 238 (.load1 (.int .i64) (T 256)),20,.blk (T 256),[25,26,27,28,29],false,true⟩,⟨Gf 258 238 (.move (T 8)),21,.none,[23,24,25,26,27,28,29],false,true⟩,⟨Gf 259 238 (.move (T 19)),22,.none,[23,24,25,26,27,28,29],false,true⟩,⟨Hf 260 238 (.ixS 1 (T 258) (T 259)),23,.none,[24,25,26,27,28,29],false,true⟩,⟨Hf 261 238 (.load1 (.int .i64) (T 260)),24,.blk (T 260),[25,26,27,28,29],false,true⟩,⟨⟨some 262,some (238,false),.op false (.old (.call ⟨.builtin .max,#[T 257,T 261],#[3,3]⟩))⟩,25,.none,[26,27,28,29],false,true⟩,⟨Hf 263 238 (.build z2 [(0,1,(T 252)),(1,1,(T 262))]),26,.none,[27,28,29],false,true⟩,⟨Gf 264 238 (.binOp .eql 54 (T 242) (T 263) 54),27,.none,[28,29],false,true⟩,Dr (Ol 265 (.pick (T 238) (.const (.bool true)) (T 264))) 28 [29],Dr (As 20 265) 29 []]))
 (Rg [7,8,10,12,19,20,21] [Mv 235 21,Bc 236 .add 3 235 .i64 1,As 21 236]))⟩)],
 []⟩
def r8 : RFun :=
⟨.seq (Rg [0,1] [Ol 4 (.assign (.const (.bool false)))])
 (.seq (Rg [0,1] [Ca 10 21 [] vB,As 5 10])
 (.seq (.seq (Rg [0,1,5] [Mv 11 0,Ca 12 22 [T 11] vI,Bc 13 .neq 3 12 .i64 0,Mv 14 13,Gf 15 14 (.move (T 1)),Hf 16 14 (.lenS (T 15)),Gf 17 14 (.binOp .gtr 3 (T 16) (Ci 20) 3),Ol 18 (.pick (T 14) (.const (.bool true)) (T 17)),Mv 19 18,Gf 20 19 (.move (T 5)),Gf 21 19 (.unOp .not 4 (T 20)),Ol 22 (.pick (T 19) (.const (.bool true)) (T 21))])
 (.cond (T 22) (.seq (Rg [5] [Mv 23 5,As 4 23])
 .ret)
 .skip))
 (.seq (Rg [0,1,5] [Mv 25 0,Mv 26 1,Ca 27 32 [T 25,T 26] (some (.tup [.agg [.int .i64,.int .i64,.int .i64],.one (.int .i64)])),Mv 24 27,Ex 28 24 0,Ex 29 24 1,Nw 6 3 [.int .i64 0,.int .i64 0,.int .i64 0],Sr 3 6 28,As 7 29])
 (.seq (Rg [0,1,5,6,7] [Mv 31 0,Mv 32 1,Ca 33 29 [T 31,T 32] (some (.tup [.agg [.int .i64,.int .i64,.int .i64],.one (.int .i64)])),Mv 30 33,Ex 34 30 0,Ex 35 30 1,Nw 8 3 [.int .i64 0,.int .i64 0,.int .i64 0],Sr 3 8 34,As 9 35])
 (.seq (.seq (Rg [5,6,7,8,9] [Mv 36 7,Bc 37 .eql 24 36 .i64 2,Mv 38 9,Bc 39 .eql 24 38 .i64 2,Bt 40 .neq 4 37 39,Mv 41 40,Gf 42 41 (.move (T 7)),Gf 43 41 (.binOp .eql 24 (T 42) (Ci 6) 24),Gf 44 41 (.move (T 9)),Gf 45 41 (.binOp .eql 24 (T 44) (Ci 6) 24),Gf 46 41 (.binOp .neq 4 (T 43) (T 45) 4),Ol 47 (.pick (T 41) (.const (.bool true)) (T 46))])
 (.cond (T 47) (.seq (Rg [] [Ol 4 (.assign (.const (.bool false)))])
 .ret)
 .skip))
 (.seq (.seq (Rg [5,6,7,8,9] [Mv 48 7,Bc 49 .neq 24 48 .i64 0,Mv 50 49,Gf 51 50 (.move (T 9)),Gf 52 50 (.binOp .neq 24 (T 51) (Ci 0) 24),Ol 53 (.pick (T 50) (.const (.bool true)) (T 52))])
 (.cond (T 53) (.seq (Rg [5] [Mv 54 5,As 4 54])
 .ret)
 .skip))
 (.seq (Rg [5,6,8] [Mv 55 5,Mv 56 55,Ht 57 56 (.load 3 [.int .i64,.int .i64,.int .i64] (T 6)),Ht 58 56 (.load 3 [.int .i64,.int .i64,.int .i64] (T 8)),Gt 59 56 (.binOp .eql 60 (T 57) (T 58) 60),Ol 60 (.pick (T 56) (T 59) (.const (.bool false))),Mv 61 60,Ht 62 61 (.load 3 [.int .i64,.int .i64,.int .i64] (T 6)),⟨some 63,some (61,true),.call (.func 33) [T 62] vI⟩,Gt 64 61 (.binOp .eql 3 (T 63) (Ci 0) 3),Ol 65 (.pick (T 61) (T 64) (.const (.bool false))),As 4 65])
 .ret))))))),
 [.tmp 4],
 [],
 []⟩
def r9 : RFun :=
⟨.seq (Rg [] [Ol 0 (.assign (.const (.bool false)))])
 (.seq (Rg [] [Ro 37 (.build [.int .i64 0,.int .i64 0,.int .i64 0] [(0,1,(Ci 1)),(2,1,(Ci 1))]),Nw 1 3 [.int .i64 0,.int .i64 0,.int .i64 0],Sr 3 1 37])
 (.seq (Rg [1] [Ro 39 (.mkSlice 6 [.int .i64 0,.int .i64 0,.int .i64 0,.int .i64 0,.int .i64 0,.int .i64 0] (Ci 65) (Ci 65)),Ca 40 10 [T 39] (some (.tup [.one .slice,.one (.int .i64),.one (.int .i64)])),Mv 38 40,Ex 41 38 0,Ex 42 38 1,Ex 43 38 2,As 2 41,As 3 42,As 4 43])
 (.seq (Rg [1,4] [Ro 45 (.load 3 [.int .i64,.int .i64,.int .i64] (T 1)),Ro 46 (.build [.int .i64 0,.int .i64 0,.int .i64 0,.int .i64 0,.int .i64 0,.int .i64 0] [(0,1,(Ci 2)),(1,1,(Ci 1)),(2,3,(T 45))]),Ro 47 (.buildSlice 6 1 [.int .i64 0,.int .i64 0,.int .i64 0,.int .i64 0,.int .i64 0,.int .i64 0] [(0,6,(T 46))]),Ca 48 12 [T 47] (some (.tup [.one .slice,.one (.int .i64)])),Mv 44 48,Ex 49 44 0,Ex 50 44 1,As 5 49,As 6 50])
 (.seq (Rg [1,4,6] [Ro 51 (.load 3 [.int .i64,.int .i64,.int .i64] (T 1)),Ro 52 (.build [.int .i64 0,.int .i64 0,.int .i64 0,.int .i64 0,.int .i64 0,.int .i64 0] [(0,1,(Ci 0)),(1,1,(Ci 1)),(2,3,(T 51))]),Ro 53 (.load 3 [.int .i64,.int .i64,.int .i64] (T 1)),Ro 54 (.build [.int .i64 0,.int .i64 0,.int .i64 0,.int .i64 0,.int .i64 0,.int .i64 0] [(0,1,(Ci 0)),(1,1,(Ci 1)),(2,3,(T 53))]),Ro 55 (.buildSlice 6 2 [.int .i64 0,.int .i64 0,.int .i64 0,.int .i64 0,.int .i64 0,.int .i64 0,.int .i64 0,.int .i64 0,.int .i64 0,.int .i64 0,.int .i64 0,.int .i64 0] [(0,6,(T 52)),(6,6,(T 54))]),As 7 55])
 (.seq (Rg [1,4,6,7] [Mv 57 7,Ca 58 14 [T 57] (some (.tup [.one .slice,.one (.int .i64)])),Mv 56 58,Ex 59 56 0,Ex 60 56 1,As 8 59,As 9 60])
 (.seq (Rg [1,4,6,9] [Ro 61 (.load 3 [.int .i64,.int .i64,.int .i64] (T 1)),Ro 62 (.build [.int .i64 0,.int .i64 0,.int .i64 0,.int .i64 0,.int .i64 0,.int .i64 0] [(0,1,(Ci 5)),(1,1,(Ci 7)),(2,3,(T 61))]),Ro 63 (.load 3 [.int .i64,.int .i64,.int .i64] (T 1)),Ro 64 (.build [.int .i64 0,.int .i64 0,.int .i64 0,.int .i64 0,.int .i64 0,.int .i64 0] [(0,1,(Ci 1)),(1,1,(Ci 3)),(2,3,(T 63))]),Ro 65 (.buildSlice 6 2 [.int .i64 0,.int .i64 0,.int .i64 0,.int .i64 0,.int .i64 0,.int .i64 0,.int .i64 0,.int .i64 0,.int .i64 0,.int .i64 0,.int .i64 0,.int .i64 0] [(0,6,(T 62)),(6,6,(T 64))]),As 10 65])
 (.seq (Rg [4,6,9,10] [Mv 67 10,Ca 68 10 [T 67] (some (.tup [.one .slice,.one (.int .i64),.one (.int .i64)])),Mv 66 68,Ex 69 66 0,Ex 70 66 1,Ex 71 66 2,As 11 69,As 12 70,As 13 71])
 (.seq (Rg [4,6,9,10,11,12,13] [Mv 73 10,Ca 74 16 [T 73,.const (.int .i64 1),.const (.int .i64 5)] (some (.tup [.one .slice,.one (.int .i64)])),Mv 72 74,Ex 75 72 0,Ex 76 72 1,As 14 75,As 15 76])
 (.seq (Rg [4,6,9,10,11,12,13,15] [Mv 78 10,Ca 79 16 [T 78,.const (.int .i64 1),.const (.int .i64 0)] (some (.tup [.one .slice,.one (.int .i64)])),Mv 77 79,Ex 80 77 0,Ex 81 77 1,As 16 80,As 17 81])
 (.seq (Rg [4,6,9,10,11,12,13,15,17] [Mv 83 10,Ca 84 16 [T 83,.const (.int .i64 (-1)),.const (.int .i64 1)] (some (.tup [.one .slice,.one (.int .i64)])),Mv 82 84,Ex 85 82 0,Ex 86 82 1,As 18 85,As 19 86])
 (.seq (Rg [4,6,9,10,11,12,13,15,17,19] [Mv 88 10,Ca 89 16 [T 88,.const (.int .i64 7),.const (.int .i64 7)] (some (.tup [.one .slice,.one (.int .i64)])),Mv 87 89,Ex 90 87 0,Ex 91 87 1,As 20 90,As 21 91])
 (.seq (Rg [4,6,9,10,11,12,13,15,17,19,20,21] [Ca 93 34 [] (some (.val (.one .slice))),Ca 94 16 [T 93,.const (.int .i64 3),.const (.int .i64 1)] (some (.tup [.one .slice,.one (.int .i64)])),Mv 92 94,Ex 95 92 0,Ex 96 92 1,As 22 95,As 23 96])
 (.seq (Rg [4,6,9,10,11,12,13,15,17,19,20,21,22,23] [Mv 98 10,Ro 99 (.buildSlice 1 2 z2 [(0,1,(Ci 1)),(1,1,(Ci 3))]),Ca 100 23 [T 98,T 99] (some (.tup [.one .slice,.one (.int .i64)])),Mv 97 100,Ex 101 97 0,Ex 102 97 1,As 24 101,As 25 102])
 (.seq (Rg [4,6,9,10,11,12,13,15,17,19,20,21,22,23,25] [Mv 104 10,Ro 105 (.buildSlice 1 3 [.int .i64 0,.int .i64 0,.int .i64 0] [(0,1,(Ci 1)),(1,1,(Ci 3)),(2,1,(Ci 5))]),Ca 106 23 [T 104,T 105] (some (.tup [.one .slice,.one (.int .i64)])),Mv 103 106,Ex 107 103 0,Ex 108 103 1,As 26 107,As 27 108])
 (.seq (Rg [4,6,9,10,11,12,13,15,17,19,20,21,22,23,25,27] [Mv 110 10,Ro 111 (.buildSlice 1 3 [.int .i64 0,.int .i64 0,.int .i64 0] [(0,1,(Ci 1)),(1,1,(Ci 3)),(2,1,(Ci 5))]),Ca 112 29 [T 110,T 111] (some (.tup [.agg [.int .i64,.int .i64,.int .i64],.one (.int .i64)])),Mv 109 112,Ex 113 109 0,Ex 114 109 1,Nw 28 3 [.int .i64 0,.int .i64 0,.int .i64 0],Sr 3 28 113,As 29 114])
 (.seq (Rg [4,6,9,11,12,13,15,17,19,20,21,22,23,25,27,29] [Ca 116 10 [.const (.slice none 0 0)] (some (.tup [.one .slice,.one (.int .i64),.one (.int .i64)])),Mv 115 116,Ex 117 115 0,Ex 118 115 1,Ex 119 115 2,As 30 117,As 31 118,As 32 119])
 (.seq (Rg [4,6,9,11,12,13,15,17,19,20,21,22,23,25,27,29,30,31,32] [Ca 120 34 [] (some (.val (.one .slice))),As 33 120])
 (.seq (Rg [4,6,9,11,12,13,15,17,19,20,21,22,23,25,27,29,30,31,32,33] [Mv 121 33,Ro 122 (.build [.int .i64 0,.int .i64 0,.int .i64 0] [(2,1,(Ci 1))]),Ro 123 (.ixS 6 (T 121) (Ci 4)),Fa 124 2 123,Sr 3 124 122])
 (.seq (Rg [4,6,9,11,12,13,15,17,19,20,21,22,23,25,27,29,30,31,32,33] [Mv 126 33,Ro 127 (.buildSlice 1 4 [.int .i64 0,.int .i64 0,.int .i64 0,.int .i64 0] [(0,1,(Ci 0)),(1,1,(Ci 1)),(2,1,(Ci 2)),(3,1,(Ci 3))]),Ca 128 29 [T 126,T 127] (some (.tup [.agg [.int .i64,.int .i64,.int .i64],.one (.int .i64)])),Mv 125 128,Ex 129 125 0,Ex 130 125 1,Nw 34 3 [.int .i64 0,.int .i64 0,.int .i64 0],Sr 3 34 129,As 35 130])
 (.seq (Rg [4,6,9,11,12,13,15,17,19,20,21,22,23,25,27,29,30,31,32,35] [Ca 131 21 [] vB,Mv 132 131,Gt 133 132 (.move (T 4)),Gt 134 132 (.binOp .eql 24 (T 133) (Ci 4) 24),Ol 135 (.pick (T 132) (T 134) (.const (.bool false))),Mv 136 135,Gt 137 136 (.move (T 6)),Gt 138 136 (.binOp .eql 24 (T 137) (Ci 8) 24),Ol 139 (.pick (T 136) (T 138) (.const (.bool false))),Mv 140 139,Gt 141 140 (.move (T 9)),Gt 142 140 (.binOp .eql 24 (T 141) (Ci 14) 24),Ol 143 (.pick (T 140) (T 142) (.const (.bool false))),Mv 144 143,Gt 145 144 (.move (T 13)),Gt 146 144 (.binOp .eql 24 (T 145) (Ci 0) 24),Ol 147 (.pick (T 144) (T 146) (.const (.bool false))),Mv 148 147,Gt 149 148 (.move (T 12)),Gt 150 148 (.binOp .eql 3 (T 149) (Ci 2) 3),Ol 151 (.pick (T 148) (T 150) (.const (.bool false))),Mv 152 151,Gt 153 152 (.move (T 11)),Ht 154 152 (.build z2 [(0,1,(Ci 1)),(1,1,(Ci 3))]),Ht 155 152 (.build z2 [(0,1,(Ci 5)),(1,1,(Ci 7))]),Ht 156 152 (.buildSlice 2 2 [.int .i64 0,.int .i64 0,.int .i64 0,.int .i64 0] [(0,2,(T 154)),(2,2,(T 155))]),⟨some 157,some (152,true),.call (.func 18) [T 153,T 156] vB⟩,Ol 158 (.pick (T 152) (T 157) (.const (.bool false))),Mv 159 158,Gt 160 159 (.move (T 15)),Gt 161 159 (.binOp .eql 24 (T 160) (Ci 6) 24),Ol 162 (.pick (T 159) (T 161) (.const (.bool false))),Mv 163 162,Gt 164 163 (.move (T 17)),Gt 165 163 (.binOp .eql 24 (T 164) (Ci 2) 24),Ol 166 (.pick (T 163) (T 165) (.const (.bool false))),Mv 167 166,Gt 168 167 (.move (T 19)),Gt 169 167 (.binOp .eql 24 (T 168) (Ci 2) 24),Ol 170 (.pick (T 167) (T 169) (.const (.bool false))),Mv 171 170,Gt 172 171 (.move (T 21)),Gt 173 171 (.binOp .eql 24 (T 172) (Ci 0) 24),Ol 174 (.pick (T 171) (T 173) (.const (.bool false))),Mv 175 174,Gt 176 175 (.move (T 20)),Ht 177 175 (.buildSlice 1 1 [.int .i64 0] [(0,1,(Ci 7))]),⟨some 178,some (175,true),.call (.func 20) [T 176,T 177] vB⟩,Ol 179 (.pick (T 175) (T 178) (.const (.bool false))),As 36 179])
 (.seq (Rg [22,23,25,27,29,30,31,32,35,36] [Mv 180 36,Mv 181 180,Gt 182 181 (.move (T 23)),Gt 183 181 (.binOp .eql 24 (T 182) (Ci 0) 24),Ol 184 (.pick (T 181) (T 183) (.const (.bool false))),Mv 185 184,Gt 186 185 (.move (T 22)),Ht 187 185 (.buildSlice 1 3 [.int .i64 0,.int .i64 0,.int .i64 0] [(0,1,(Ci 3)),(1,1,(Ci 0)),(2,1,(Ci 1))]),⟨some 188,some (185,true),.call (.func 20) [T 186,T 187] vB⟩,Ol 189 (.pick (T 185) (T 188) (.const (.bool false))),Mv 190 189,Gt 191 190 (.move (T 25)),Gt 192 190 (.binOp .eql 24 (T 191) (Ci 2) 24),Ol 193 (.pick (T 190) (T 192) (.const (.bool false))),Mv 194 193,Gt 195 194 (.move (T 27)),Gt 196 194 (.binOp .eql 24 (T 195) (Ci 6) 24),Ol 197 (.pick (T 194) (T 196) (.const (.bool false))),Mv 198 197,Gt 199 198 (.move (T 29)),Gt 200 198 (.binOp .eql 24 (T 199) (Ci 6) 24),Ol 201 (.pick (T 198) (T 200) (.const (.bool false))),Mv 202 201,Gt 203 202 (.move (T 32)),Gt 204 202 (.binOp .eql 24 (T 203) (Ci 0) 24),Ol 205 (.pick (T 202) (T 204) (.const (.bool false))),Mv 206 205,Gt 207 206 (.move (T 31)),Gt 208 206 (.binOp .eql 3 (T 207) (Ci 0) 3),Ol 209 (.pick (T 206) (T 208) (.const (.bool false))),Mv 210 209,Gt 211 210 (.move (T 30)),Ht 212 210 (.lenS (T 211)),Gt 213 210 (.binOp .eql 3 (T 212) (Ci 0) 3),Ol 214 (.pick (T 210) (T 213) (.const (.bool false))),Mv 215 214,Gt 216 215 (.move (T 35)),Gt 217 215 (.binOp .eql 24 (T 216) (Ci 18) 24),Ol 218 (.pick (T 215) (T 217) (.const (.bool false))),As 0 218])
 .ret))))))))))))))))))))),
 [.tmp 0],
 [],
 []⟩
theorem r9_ok:resFun (progU ()) hint live 9 Try.f9=some r9:=by kernel_rfl
def r10 : RFun :=
⟨.seq (Rg [0] [Ol 2 (.assign (.const (.slice none 0 0))),Ac 3 0,Ac 4 0])
 (.seq (.seq (Rg [0] [Mv 8 0,Ca 9 35 [T 8] vI,As 5 9])
 (.seq (Rg [0,5] [Mv 10 5,Bc 11 .neq 24 10 .i64 0])
 (.cond (T 11) (.seq (Rg [5] [Mv 12 5,Ol 2 (.assign (.const (.slice none 0 0))),Ac 3 0,As 4 12])
 .ret)
 .skip)))
 (.seq (Rg [0] [Mv 14 0,Ca 15 36 [T 14] (some (.tup [.one .slice,.one (.int .i64)])),Mv 13 15,Ex 16 13 0,Ex 17 13 1,As 6 16,As 7 17])
 (.seq (Rg [6,7] [Mv 18 6,Mv 19 7,As 2 18,As 3 19,Ac 4 0])
 .ret))),
 [.tmp 2,.tmp 3,.tmp 4],
 [],
 []⟩
theorem r10_ok:resFun (progU ()) hint live 10 Try.f10=some r10:=by kernel_rfl
def r11 : RFun :=
⟨.seq (Rg [0] [Ol 2 (.assign (.const (.slice none 0 0))),Ac 3 0,Ac 4 0])
 (.seq (.seq (Rg [0] [Mv 7 0,Ca 8 22 [T 7] vI,Bc 9 .neq 3 8 .i64 0])
 (.cond (T 9) (.seq (Rg [0] [Mv 10 0,Ca 11 22 [T 10] vI,Ol 2 (.assign (.const (.slice none 0 0))),Ac 3 0,As 4 11])
 .ret)
 .skip))
 (.seq (Rg [0] [Mv 13 0,Ca 14 37 [T 13] (some (.tup [.one .slice,.one (.int .i64)])),Mv 12 14,Ex 15 12 0,Ex 16 12 1,As 5 15,As 6 16])
 (.seq (Rg [5,6] [Mv 17 5,Mv 18 6,As 2 17,As 3 18,Ac 4 0])
 .ret))),
 [.tmp 2,.tmp 3,.tmp 4],
 [],
 []⟩
def r12 : RFun :=
⟨.seq (Rg [0] [Ol 2 (.assign (.const (.slice none 0 0))),Ac 3 0])
 (.seq (.seq (Rg [0] [Mv 5 0,Ca 6 35 [T 5] vI,As 4 6])
 (.seq (Rg [0,4] [Mv 7 4,Bc 8 .neq 24 7 .i64 0])
 (.cond (T 8) (.seq (Rg [4] [Mv 9 4,Ol 2 (.assign (.const (.slice none 0 0))),As 3 9])
 .ret)
 .skip)))
 (.seq (Rg [0] [Mv 10 0,Mv 11 0,Ca 12 39 [T 11] (some (.val (.one .any))),Ca 13 38 [T 10,T 12] (some (.val (.one .slice))),As 2 13,Ac 3 0])
 .ret)),
 [.tmp 2,.tmp 3],
 [],
 []⟩
theorem r12_ok:resFun (progU ()) hint live 12 Try.f12=some r12:=by kernel_rfl
def r13 : RFun :=
⟨.seq (Rg [0] [Ol 2 (.assign (.const (.slice none 0 0))),Ac 3 0])
 (.seq (.seq (Rg [0] [Mv 4 0,Ca 5 22 [T 4] vI,Bc 6 .neq 3 5 .i64 0])
 (.cond (T 6) (.seq (Rg [0] [Mv 7 0,Ca 8 22 [T 7] vI,Ol 2 (.assign (.const (.slice none 0 0))),As 3 8])
 .ret)
 .skip))
 (.seq (Rg [0] [Mv 9 0,Ca 10 40 [T 9] (some (.val (.one .slice))),As 2 10,Ac 3 0])
 .ret)),
 [.tmp 2,.tmp 3],
 [],
 []⟩
def r14 : RFun :=
⟨.seq (Rg [0] [Ol 2 (.assign (.const (.slice none 0 0))),Ac 3 0])
 (.seq (.seq (Rg [0] [Mv 7 0,Ca 8 35 [T 7] vI,As 4 8])
 (.seq (Rg [0,4] [Mv 9 4,Bc 10 .neq 24 9 .i64 0])
 (.cond (T 10) (.seq (Rg [4] [Mv 11 4,Ol 2 (.assign (.const (.slice none 0 0))),As 3 11])
 .ret)
 .skip)))
 (.seq (Rg [0] [Mv 13 0,Ca 14 41 [T 13] (some (.tup [.one .slice,.one .slice])),Mv 12 14,Ex 15 12 0,Ex 16 12 1,As 5 15,As 6 16])
 (.seq (Rg [6] [Mv 17 6,As 2 17,Ac 3 0])
 .ret))),
 [.tmp 2,.tmp 3],
 [],
 []⟩
theorem r14_ok:resFun (progU ()) hint live 14 Try.f14=some r14:=by kernel_rfl
def r15 : RFun :=
⟨.seq (Rg [0] [Ol 2 (.assign (.const (.slice none 0 0))),Ac 3 0])
 (.seq (.seq (Rg [0] [Mv 4 0,Ca 5 22 [T 4] vI,Bc 6 .neq 3 5 .i64 0])
 (.cond (T 6) (.seq (Rg [0] [Mv 7 0,Ca 8 22 [T 7] vI,Ol 2 (.assign (.const (.slice none 0 0))),As 3 8])
 .ret)
 .skip))
 (.seq (Rg [0] [Mv 9 0,Ca 10 42 [T 9] (some (.val (.one .slice))),As 2 10,Ac 3 0])
 .ret)),
 [.tmp 2,.tmp 3],
 [],
 []⟩
def r16 : RFun :=
⟨.seq (Rg [0,1,2] [Ol 6 (.assign (.const (.slice none 0 0))),Ac 7 0])
 (.seq (.seq (Rg [0,1,2] [Mv 15 0,Ca 16 35 [T 15] vI,As 8 16])
 (.seq (Rg [0,1,2,8] [Mv 17 8,Bc 18 .neq 24 17 .i64 0])
 (.cond (T 18) (.seq (Rg [8] [Mv 19 8,Ol 6 (.assign (.const (.slice none 0 0))),As 7 19])
 .ret)
 .skip)))
 (.seq (Rg [0,1,2] [Mv 20 0,Ca 21 43 [T 20] (some (.val (.one .any))),As 9 21])
 (.seq (Rg [0,1,2,9] [Mv 23 9,Mv 24 1,Ol 25 (.lookup 76 (T 23) (T 24) true),Mv 22 25,Ex 26 22 0,Ex 27 22 1,As 10 26,As 11 27])
 (.seq (Rg [0,1,2,9,11] [Mv 29 9,Mv 30 2,Ol 31 (.lookup 76 (T 29) (T 30) true),Mv 28 31,Ex 32 28 0,Ex 33 28 1,As 12 32,As 13 33])
 (.seq (.seq (Rg [0,1,2,11,13] [Mv 34 11,Ol 35 (.unOp .not 4 (T 34)),Mv 36 35,Gf 37 36 (.move (T 13)),Gf 38 36 (.unOp .not 4 (T 37)),Ol 39 (.pick (T 36) (.const (.bool true)) (T 38))])
 (.cond (T 39) (.seq (Rg [] [Ol 6 (.assign (.const (.slice none 0 0))),Ac 7 2])
 .ret)
 .skip))
 (.seq (Rg [0,1,2] [Mv 40 0,Ca 41 39 [T 40] (some (.val (.one .any))),Mv 42 1,Mv 43 2,Ca 44 44 [T 41,T 42,T 43] (some (.val (.one .slice))),As 14 44])
 (.seq (.seq (Rg [14] [Mv 45 14,Ol 46 (.binOp .eql 38 (T 45) (.const (.slice none 0 0)) 38)])
 (.cond (T 46) (.seq (Rg [] [Ol 6 (.assign (.const (.slice none 0 0))),Ac 7 6])
 .ret)
 .skip))
 (.seq (Rg [14] [Mv 47 14,As 6 47,Ac 7 0])
 .ret)))))))),
 [.tmp 6,.tmp 7],
 [],
 []⟩
theorem r16_ok:resFun (progU ()) hint live 16 Try.f16=some r16:=by kernel_rfl
def r17 : RFun :=
⟨.seq (Rg [0,1,2] [Ol 6 (.assign (.const (.slice none 0 0))),Ac 7 0])
 (.seq (.seq (Rg [0,1,2] [Mv 11 0,Ca 12 22 [T 11] vI,Bc 13 .neq 3 12 .i64 0])
 (.cond (T 13) (.seq (Rg [0] [Mv 14 0,Ca 15 22 [T 14] vI,Ol 6 (.assign (.const (.slice none 0 0))),As 7 15])
 .ret)
 .skip))
 (.seq (.seq (Rg [0,1,2] [Mv 16 0,Mv 17 1,Ca 18 27 [T 16,T 17] vB,Ol 19 (.unOp .not 4 (T 18)),Mv 20 19,Gf 21 20 (.move (T 0)),Gf 22 20 (.move (T 2)),⟨some 23,some (20,false),.call (.func 27) [T 21,T 22] vB⟩,Gf 24 20 (.unOp .not 4 (T 23)),Ol 25 (.pick (T 20) (.const (.bool true)) (T 24))])
 (.cond (T 25) (.seq (Rg [] [Ol 6 (.assign (.const (.slice none 0 0))),Ac 7 2])
 .ret)
 .skip))
 (.seq (Rg [0,1,2] [Mv 27 0,Ca 28 37 [T 27] (some (.tup [.one .slice,.one (.int .i64)])),Mv 26 28,Ex 29 26 0,Ex 30 26 1,As 8 29,As 9 30])
 (.seq (Rg [1,2,8] [Mv 31 8,Mv 32 1,Mv 33 2,Ca 34 45 [T 31,T 32,T 33,.const (.int .i64 (-1))] (some (.val (.one .slice))),As 10 34])
 (.seq (.seq (Rg [10] [Mv 35 10,Ro 36 (.lenS (T 35)),Bc 37 .eql 3 36 .i64 0])
 (.cond (T 37) (.seq (Rg [] [Ol 6 (.assign (.const (.slice none 0 0))),Ac 7 6])
 .ret)
 .skip))
 (.seq (Rg [10] [Mv 38 10,As 6 38,Ac 7 0])
 .ret)))))),
 [.tmp 6,.tmp 7],
 [],
 []⟩
def r18 : RFun :=
⟨.seq (Rg [0,1] [Ol 4 (.assign (.const (.bool false)))])
 (.seq (.seq (Rg [0,1] [Mv 6 0,Ro 7 (.lenS (T 6)),Mv 8 1,Ro 9 (.lenS (T 8)),Bt 10 .neq 3 7 9])
 (.cond (T 10) (.seq (Rg [] [Ol 4 (.assign (.const (.bool false)))])
 .ret)
 .skip))
 (.seq (.seq (Rg [0,1] [Ac 5 0])
 (.block 0 (.loop 4 (some [0,1,5]) (some [0,1,5]))))
 (.seq (Rg [] [Ol 4 (.assign (.const (.bool true)))])
 .ret))),
 [.tmp 4],
 [(4,⟨some [0,1,5],some [0,1,5],.seq (.seq (Rg [0,1,5] [Mv 11 5,Mv 12 0,Ro 13 (.lenS (T 12)),Bt 14 .lss 3 11 13])
 (.cond (T 14) .skip
 (.exit 0 (some []))))
 (.seq (.block 1 (.seq (.draw (some [0,1,5]) 9 [Dr (Mv 17 0) 0 [2,3,8],Dr (Mv 18 5) 1 [2,3,8],Dr (Ix 19 2 17 18) 2 [3,8],Db (Ld 20 19) 3 19 [8],Dr (Mv 21 1) 4 [6,7,8],Dr (Mv 22 5) 5 [6,7,8],Dr (Ix 23 2 21 22) 6 [7,8],Db (Ld 24 23) 7 23 [8],Dr (Bt 25 .neq 54 20 24) 8 []])
 (.cond (T 25) (.seq (Rg [] [Ol 4 (.assign (.const (.bool false)))])
 .ret)
 .skip)))
 (Rg [0,1,5] [Mv 15 5,Bc 16 .add 3 15 .i64 1,As 5 16]))⟩)],
 []⟩
theorem r18_ok:resFun (progU ()) hint live 18 Try.f18=some r18:=by kernel_rfl
def r19 : RFun :=
⟨.seq (Rg [0,1] [Ol 4 (.assign (.const (.bool false)))])
 (.seq (.seq (Rg [0,1] [Mv 6 0,Ro 7 (.lenS (T 6)),Mv 8 1,Ro 9 (.lenS (T 8)),Bt 10 .neq 3 7 9])
 (.cond (T 10) (.seq (Rg [] [Ol 4 (.assign (.const (.bool false)))])
 .ret)
 .skip))
 (.seq (.seq (Rg [0,1] [Ac 5 0])
 (.block 0 (.loop 4 (some [0,1,5]) (some [0,1,5]))))
 (.seq (Rg [] [Ol 4 (.assign (.const (.bool true)))])
 .ret))),
 [.tmp 4],
 [(4,⟨some [0,1,5],some [0,1,5],.seq (.seq (Rg [0,1,5] [Mv 11 5,Mv 12 0,Ro 13 (.lenS (T 12)),Bt 14 .lss 3 11 13])
 (.cond (T 14) .skip
 (.exit 0 (some []))))
 (.seq (.block 1 (.seq (.draw (some [0,1,5]) 10 [Dr (Mv 17 0) 0 [2,3,8,9],Dr (Mv 18 5) 1 [2,3,8,9],Dr (Ix 19 1 17 18) 2 [3,8,9],Db (Ro 20 (.load1 .slice (T 19))) 3 19 [8,9],Dr (Mv 21 1) 4 [6,7,8,9],Dr (Mv 22 5) 5 [6,7,8,9],Dr (Ix 23 1 21 22) 6 [7,8,9],Db (Ro 24 (.load1 .slice (T 23))) 7 23 [8,9],⟨Ca 25 20 [T 20,T 24] vB,8,.all,[9],false,false⟩,Dr (Ol 26 (.unOp .not 4 (T 25))) 9 []])
 (.cond (T 26) (.seq (Rg [] [Ol 4 (.assign (.const (.bool false)))])
 .ret)
 .skip)))
 (Rg [0,1,5] [Mv 15 5,Bc 16 .add 3 15 .i64 1,As 5 16]))⟩)],
 []⟩
theorem r19_ok:resFun (progU ()) hint live 19 Try.f19=some r19:=by kernel_rfl
