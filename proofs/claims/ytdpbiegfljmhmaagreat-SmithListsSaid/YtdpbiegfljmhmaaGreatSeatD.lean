import Derived.Test.YtdpbiegfljmhmaaGreatSeat0
import Derived.Test.YtdpbiegfljmhmaaGreatSmG
set_option linter.unusedSimpArgs false
set_option linter.unusedVariables false
namespace Go.Proofs.YtdpbiegfljmhmaaGreat
open Go.cV
set_option maxRecDepth 100000
def r3 : me :=
⟨.seq (Rg [0,1,2] [Bo 3 2 0,Ol 6 (.assign (.const (.bool false)))])
 (.seq (Rg [1,2,3] [Ca 30 5 [] vB,As 7 30])
 (.seq (.seq (Rg [1,2,3,7] [Ro 31 (.load 2 [.slice,.slice] (T 3)),Ca 32 6 [T 31] vI,Bc 33 .neq 3 32 .i64 0,Mv 34 33,Gf 35 34 (.move (T 7)),Gf 36 34 (.unOp .not 4 (T 35)),Ol 37 (.pick (T 34) (.const (.bool true)) (T 36))])
 (.cond (T 37) (.seq (Rg [7] [Mv 38 7,As 6 38])
 .ret)
 .skip))
 (.seq (Rg [1,2,3,7] [Ro 40 (.load 2 [.slice,.slice] (T 3)),Ca 41 7 [T 40] (some (.mH [.one .slice,.one (.int .i64)])),Mv 39 41,Ex 42 39 0,Ex 43 39 1,As 8 42,As 9 43])
 (.seq (Rg [1,2,3,7,8,9] [Ac 10 1])
 (.seq (.seq (Rg [1,2,3,7,8,9,10] [Ac 11 0])
 (.block 0 (.loop 7 (some [1,2,3,7,8,9,10,11]) (some [1,2,3,7,8,9,10,11]))))
 (.seq (Rg [1,2,3,7,8,9,10] [Ro 79 (.load 2 [.slice,.slice] (T 3)),Ca 80 8 [T 79] (some (.mH [.one (.int .i64),.one (.int .i64),.one (.int .i64)])),Mv 78 80,Ex 81 78 0,Ex 82 78 1,Ex 83 78 2,As 12 81,As 13 82,As 14 83])
 (.seq (Rg [1,2,3,7,8,9,10,12,13,14] [Ro 85 (.load 2 [.slice,.slice] (T 3)),Ca 86 9 [T 85] (some (.mH [.one .bool,.one (.int .i64)])),Mv 84 86,Ex 87 84 0,Ex 88 84 1,As 15 87,As 16 88])
 (.seq (Rg [1,2,3,7,8,9,10,12,13,14,15,16] [Ro 90 (.load 2 [.slice,.slice] (T 3)),Ca 91 10 [T 90] (some (.mH [.one .slice,.one (.int .i64)])),Mv 89 91,Ex 92 89 0,Ex 93 89 1,As 17 92,As 18 93])
 (.seq (.seq (Rg [1,2,3,7,8,9,10,12,13,14,15,16,17,18] [Mv 94 9,Bc 95 .neq 29 94 .i64 0,Mv 96 95,Gf 97 96 (.move (T 16)),Gf 98 96 (.binOp .neq 29 (T 97) (Ci 0) 29),Ol 99 (.pick (T 96) (.const (.bool true)) (T 98)),Mv 100 99,Gf 101 100 (.move (T 15)),Gf 102 100 (.move (T 14)),Gf 103 100 (.binOp .eql 29 (T 102) (Ci 0) 29),Gf 104 100 (.binOp .neq 4 (T 101) (T 103) 4),Ol 105 (.pick (T 100) (.const (.bool true)) (T 104)),Mv 106 105,Gf 107 106 (.move (T 14)),Gf 108 106 (.binOp .neq 29 (T 107) (Ci 0) 29),Gf 109 106 (.move (T 108)),Gt 110 109 (.move (T 14)),Gt 111 109 (.binOp .neq 29 (T 110) (Ci 6) 29),Gt 112 109 (.move (T 111)),Gf 113 112 (.move (T 18)),Gf 114 112 (.binOp .neq 29 (T 113) (Ci 6) 29),Gt 115 109 (.pick (T 112) (.const (.bool true)) (T 114)),Gf 116 106 (.pick (T 109) (T 115) (.const (.bool false))),Ol 117 (.pick (T 106) (.const (.bool true)) (T 116))])
 (.cond (T 117) (.seq (Rg [] [Ol 6 (.assign (.const (.bool false)))])
 .ret)
 .skip))
 (.seq (.seq (Rg [1,2,3,7,8,10,12,13,14,17,18] [Mv 118 14,Bc 119 .neq 29 118 .i64 0])
 (.cond (T 119) (.seq (Rg [7] [Mv 120 7,As 6 120])
 .ret)
 .skip))
 (.seq (.seq (Rg [1,2,3,7,8,10,12,13,17,18] [Mv 121 12,Mv 122 10,Bt 123 .neq 3 121 122,Mv 124 123,Gf 125 124 (.move (T 13)),Hf 126 124 (.fieldAddr 0 (T 3)),Hf 127 124 (.aM .slice (T 126)),Hf 128 124 (.qY 1 (T 127) (Ci 0)),Hf 129 124 (.aM .slice (T 128)),Hf 130 124 (.lg (T 129)),Gf 131 124 (.move (T 8)),Hf 132 124 (.lg (T 131)),Gf 133 124 (.binOp .sub 3 (T 130) (T 132) 3),Gf 134 124 (.binOp .neq 3 (T 125) (T 133) 3),Ol 135 (.pick (T 124) (.const (.bool true)) (T 134))])
 (.cond (T 135) (.seq (Rg [] [Ol 6 (.assign (.const (.bool false)))])
 .ret)
 .skip))
 (.seq (.seq (Rg [1,2,3,7,10,13,17,18] [Mv 136 13,Bc 137 .gtr 3 136 .i64 0,Mv 138 137,Gf 139 138 (.move (T 10)),Gf 140 138 (.binOp .gtr 3 (T 139) (Ci 64) 3),Ol 141 (.pick (T 138) (.const (.bool true)) (T 140))])
 (.cond (T 141) (.seq (Rg [7,13,17,18] [Mv 142 7,Mv 143 142,Gt 144 143 (.move (T 17)),Ht 145 143 (.lg (T 144)),Gt 146 143 (.binOp .eql 3 (T 145) (Ci 0) 3),Ol 147 (.pick (T 143) (T 146) (.const (.bool false))),Mv 148 147,Gt 149 148 (.move (T 13)),Gt 150 148 (.binOp .gtr 3 (T 149) (Ci 0) 3),Gt 151 148 (.move (T 150)),Gt 152 151 (.move (T 18)),Gt 153 151 (.binOp .eql 29 (T 152) (Ci 24) 29),Gt 154 148 (.pick (T 151) (T 153) (.const (.bool false))),Gt 155 148 (.move (T 154)),Gf 156 155 (.move (T 13)),Gf 157 155 (.binOp .eql 3 (T 156) (Ci 0) 3),Gf 158 155 (.move (T 157)),Gt 159 158 (.move (T 18)),Gt 160 158 (.binOp .eql 29 (T 159) (Ci 4) 29),Gf 161 155 (.pick (T 158) (T 160) (.const (.bool false))),Gt 162 148 (.pick (T 155) (.const (.bool true)) (T 161)),Ol 163 (.pick (T 148) (T 162) (.const (.bool false))),As 6 163])
 .ret)
 .skip))
 (.seq (.seq (Rg [1,2,3,7,10,17,18] [Mv 164 18,Bc 165 .neq 29 164 .i64 0,Mv 166 165,Gf 167 166 (.move (T 17)),Hf 168 166 (.lg (T 167)),Gf 169 166 (.move (T 10)),Gf 170 166 (.binOp .neq 3 (T 168) (T 169) 3),Ol 171 (.pick (T 166) (.const (.bool true)) (T 170))])
 (.cond (T 171) (.seq (Rg [] [Ol 6 (.assign (.const (.bool false)))])
 .ret)
 .skip))
 (.seq (.seq (Rg [1,2,3,7,10,17] [Ac 19 0])
 (.block 2 (.loop 26 (some [1,2,3,7,10,17,19]) (some [1,2,3,7,10,17,19]))))
 (.seq (.seq (Rg [1,2,3,7,10,17] [Mv 209 1,Bc 210 .lss 3 209 .i64 0,Mv 211 210,Gf 212 211 (.move (T 2)),Gf 213 211 (.binOp .lss 3 (T 212) (Ci 0) 3),Ol 214 (.pick (T 211) (.const (.bool true)) (T 213)),Mv 215 214,Gf 216 215 (.move (T 1)),Gf 217 215 (.move (T 10)),Gf 218 215 (.binOp .geq 3 (T 216) (T 217) 3),Ol 219 (.pick (T 215) (.const (.bool true)) (T 218)),Mv 220 219,Gf 221 220 (.move (T 2)),Gf 222 220 (.move (T 10)),Gf 223 220 (.binOp .geq 3 (T 221) (T 222) 3),Ol 224 (.pick (T 220) (.const (.bool true)) (T 223))])
 (.cond (T 224) (.seq (Rg [7] [Mv 225 7,As 6 225])
 .ret)
 .skip))
 (.seq (Rg [1,2,3,7,17] [Ol 22 (.assign (.const (.slice none 0 0))),Ol 23 (.assign (.const (.slice none 0 0)))])
 (.seq (.seq (Rg [1,2,3,7,17,22,23] [Ac 24 0])
 (.block 4 (.loop 35 (some [1,2,3,7,17,22,23,24]) (some [1,2,3,7,17,22,23,24]))))
 (.seq (.seq (Rg [3,7,22,23] [Ac 27 0])
 (.block 6 (.loop 40 none (some [3,7,22,23,27]))))
 (.seq (Rg [3,7,22,23] [Fa 270 0 3,Ro 271 (.aM .slice (T 270)),Mv 272 23,Ro 273 (.build [.slice none 0 0,.slice none 0 0] [(0,1,(T 271)),(1,1,(T 272))]),Mv 274 22,Ca 275 16 [T 273,T 274] (some (.mH [.one .bool,.one (.int .i64)])),Mv 269 275,Ex 276 269 0,Ex 277 269 1,As 28 276,As 29 277])
 (.seq (Rg [7,28,29] [Mv 278 7,Mv 279 278,Gt 280 279 (.move (T 29)),Gt 281 279 (.binOp .eql 29 (T 280) (Ci 0) 29),Ol 282 (.pick (T 279) (T 281) (.const (.bool false))),Mv 283 282,Gt 284 283 (.move (T 28)),Ol 285 (.pick (T 283) (T 284) (.const (.bool false))),As 6 285])
 .ret)))))))))))))))))))),
 [.tmp 6],
 [(7,⟨some [1,2,3,7,8,9,10,11],some [1,2,3,7,8,9,10,11],.seq (.seq (Rg [1,2,3,7,8,9,10,11] [Mv 44 11,Mv 45 8,Ro 46 (.lg (T 45)),Bt 47 .lss 3 44 46])
 (.cond (T 47) .skip
 (.exit 0 (some [1,2,3,7,8,9,10]))))
 (.seq (.block 1 (.seq (.seq (.draw (some [1,2,3,7,8,9,10,11]) 22 [Dr (Mv 50 8) 0 [2,3,4,5,6,7,8,9,10,11,12,13,14,15,16,17,18,19,20,21],Dr (Mv 51 11) 1 [2,3,4,5,6,7,8,9,10,11,12,13,14,15,16,17,18,19,20,21],Dr (Ix 52 1 50 51) 2 [3,4,5,6,7,8,9,10,11,12,13,14,15,16,17,18,19,20,21],Db (L1 53 52) 3 52 [4,5,6,7,8,9,10,11,12,13,14,15,16,17,18,19,20,21],Dr (Bc 54 .lss 3 53 .i64 1) 4 [5,6,7,8,9,10,11,12,13,14,15,16,17,18,19,20,21],Dr (Mv 55 54) 5 [6,7,8,9,10,11,12,13,14,15,16,17,18,19,20,21],⟨Gf 56 55 (.move (T 11)),6,.none,[7,8,9,10,11,12,13,14,15,16,17,18,19,20,21],false,true⟩,⟨Gf 57 55 (.binOp .gtr 3 (T 56) (Ci 0) 3),7,.none,[8,9,10,11,12,13,14,15,16,17,18,19,20,21],false,true⟩,⟨Gf 58 55 (.move (T 57)),8,.none,[9,10,11,12,13,14,15,16,17,18,19,20,21],false,true⟩,⟨Gt 59 58 (.move (T 8)),9,.none,[11,12,18,19,20,21],false,true⟩,⟨Gt 60 58 (.move (T 11)),10,.none,[11,12,18,19,20,21],false,true⟩,⟨Ht 61 58 (.qY 1 (T 59) (T 60)),11,.none,[12,18,19,20,21],false,true⟩,⟨Ht 62 58 (.aM (.int .i64) (T 61)),12,.di (T 61),[18,19,20,21],false,true⟩,⟨Gt 63 58 (.move (T 8)),13,.none,[16,17,18,19,20,21],false,true⟩,⟨Gt 64 58 (.move (T 11)),14,.none,[15,16,17,18,19,20,21],false,true⟩,⟨Gt 65 58 (.binOp .sub 3 (T 64) (Ci 1) 3),15,.none,[16,17,18,19,20,21],false,true⟩,⟨Ht 66 58 (.qY 1 (T 63) (T 65)),16,.none,[17,18,19,20,21],false,true⟩,⟨Ht 67 58 (.aM (.int .i64) (T 66)),17,.di (T 66),[18,19,20,21],false,true⟩,⟨Gt 68 58 (.binOp .rem 3 (T 62) (T 67) 3),18,.none,[19,20,21],false,true⟩,⟨Gt 69 58 (.binOp .neq 3 (T 68) (Ci 0) 3),19,.none,[20,21],false,true⟩,⟨Gf 70 55 (.pick (T 58) (T 69) (.const (.bool false))),20,.none,[21],false,true⟩,Dr (Ol 71 (.pick (T 55) (.const (.bool true)) (T 70))) 21 []])
 (.cond (T 71) (.seq (Rg [] [Ol 6 (.assign (.const (.bool false)))])
 .ret)
 .skip))
 (Rg [1,2,3,7,8,9,10,11] [Mv 72 10,Mv 73 8,Mv 74 11,Ix 75 1 73 74,L1 76 75,Bt 77 .mul 3 72 76,As 10 77])))
 (Rg [1,2,3,7,8,9,10,11] [Mv 48 11,Bc 49 .add 3 48 .i64 1,As 11 49]))⟩),(26,⟨some [1,2,3,7,10,17,19],some [1,2,3,7,10,17,19],.seq (.seq (Rg [1,2,3,7,10,17,19] [Mv 172 19,Mv 173 10,Bt 174 .lss 3 172 173])
 (.cond (T 174) .skip
 (.exit 2 (some [1,2,3,7,10,17]))))
 (.seq (.block 3 (.seq (.draw (some [1,2,3,7,10,17,19]) 11 [Db (Ro 178 (.load 2 [.slice,.slice] (T 3))) 0 3 [5,6,7,8,9,10],Dr (Mv 179 17) 1 [3,4,5,6,7,8,9,10],Dr (Mv 180 19) 2 [3,4,5,6,7,8,9,10],Dr (Ix 181 1 179 180) 3 [4,5,6,7,8,9,10],Db (Ro 182 (.aM .slice (T 181))) 4 181 [5,6,7,8,9,10],⟨Ca 183 11 [T 178,T 182] (some (.mH [.one .bool,.one (.int .i64)])),5,.all,[6,7,8,9,10],false,false⟩,Dr (Mv 177 183) 6 [7,8,9,10],Dr (Ex 184 177 0) 7 [9,10],Dr (Ex 185 177 1) 8 [10],Dr (As 20 184) 9 [10],Dr (As 21 185) 10 []])
 (.seq (.draw (some [1,2,3,7,10,17,19,20,21]) 23 [Dr (Mv 186 21) 0 [1,2,3,4,5,6,7,8,9,10,11,12,13,14,15,16,17,18,19,20,21,22],Dr (Bc 187 .neq 3 186 .i64 0) 1 [2,3,4,5,6,7,8,9,10,11,12,13,14,15,16,17,18,19,20,21,22],Dr (Mv 188 187) 2 [3,4,5,6,7,8,9,10,11,12,13,14,15,16,17,18,19,20,21,22],⟨Gf 189 188 (.move (T 20)),3,.none,[4,5,6,7,8,9,10,11,12,13,14,15,16,17,18,19,20,21,22],false,true⟩,⟨Gf 190 188 (.unOp .not 4 (T 189)),4,.none,[5,6,7,8,9,10,11,12,13,14,15,16,17,18,19,20,21,22],false,true⟩,Dr (Ol 191 (.pick (T 188) (.const (.bool true)) (T 190))) 5 [6,7,8,9,10,11,12,13,14,15,16,17,18,19,20,21,22],Dr (Mv 192 191) 6 [7,8,9,10,11,12,13,14,15,16,17,18,19,20,21,22],⟨Gf 193 192 (.move (T 19)),7,.none,[8,9,10,11,12,13,14,15,16,17,18,19,20,21,22],false,true⟩,⟨Gf 194 192 (.binOp .gtr 3 (T 193) (Ci 0) 3),8,.none,[9,10,11,12,13,14,15,16,17,18,19,20,21,22],false,true⟩,⟨Gf 195 192 (.move (T 194)),9,.none,[10,11,12,13,14,15,16,17,18,19,20,21,22],false,true⟩,⟨Gt 196 195 (.move (T 17)),10,.none,[13,14,19,20,21,22],false,true⟩,⟨Gt 197 195 (.move (T 19)),11,.none,[12,13,14,19,20,21,22],false,true⟩,⟨Gt 198 195 (.binOp .sub 3 (T 197) (Ci 1) 3),12,.none,[13,14,19,20,21,22],false,true⟩,⟨Ht 199 195 (.qY 1 (T 196) (T 198)),13,.none,[14,19,20,21,22],false,true⟩,⟨Ht 200 195 (.aM .slice (T 199)),14,.di (T 199),[19,20,21,22],false,true⟩,⟨Gt 201 195 (.move (T 17)),15,.none,[17,18,19,20,21,22],false,true⟩,⟨Gt 202 195 (.move (T 19)),16,.none,[17,18,19,20,21,22],false,true⟩,⟨Ht 203 195 (.qY 1 (T 201) (T 202)),17,.none,[18,19,20,21,22],false,true⟩,⟨Ht 204 195 (.aM .slice (T 203)),18,.di (T 203),[19,20,21,22],false,true⟩,⟨⟨some 205,some (195,true),.call (.func 12) [T 200,T 204] vB⟩,19,.all,[20,21,22],false,false⟩,⟨Gt 206 195 (.unOp .not 4 (T 205)),20,.none,[21,22],false,true⟩,⟨Gf 207 192 (.pick (T 195) (T 206) (.const (.bool false))),21,.none,[22],false,true⟩,Dr (Ol 208 (.pick (T 192) (.const (.bool true)) (T 207))) 22 []])
 (.cond (T 208) (.seq (Rg [] [Ol 6 (.assign (.const (.bool false)))])
 .ret)
 .skip))))
 (Rg [1,2,3,7,10,17,19] [Mv 175 19,Bc 176 .add 3 175 .i64 1,As 19 176]))⟩),(35,⟨some [1,2,3,7,17,22,23,24],some [1,2,3,7,17,22,23,24],.seq (.seq (Rg [1,2,3,7,17,22,23,24] [Mv 226 24,Mv 227 17,Mv 228 1,Ix 229 1 227 228,Ro 230 (.aM .slice (T 229)),Ro 231 (.lg (T 230)),Bt 232 .lss 3 226 231])
 (.cond (T 232) .skip
 (.exit 4 (some [3,7,22,23]))))
 (.seq (.block 5 (.seq (.draw (some [1,2,3,7,17,22,23,24]) 21 [Dr (Mv 236 17) 0 [2,3,5,6,14,15,16,17,19,20],Dr (Mv 237 1) 1 [2,3,5,6,14,15,16,17,19,20],Dr (Ix 238 1 236 237) 2 [3,5,6,14,15,16,17,19,20],Db (Ro 239 (.aM .slice (T 238))) 3 238 [5,6,14,15,16,17,19,20],Dr (Mv 240 24) 4 [5,6,14,15,16,17,19,20],Dr (Ix 241 2 239 240) 5 [6,14,15,16,17,19,20],Db (Ld 242 241) 6 241 [14,15,16,17,19,20],Dr (Mv 243 17) 7 [9,10,12,13,14,15,16,17,19,20],Dr (Mv 244 2) 8 [9,10,12,13,14,15,16,17,19,20],Dr (Ix 245 1 243 244) 9 [10,12,13,14,15,16,17,19,20],Db (Ro 246 (.aM .slice (T 245))) 10 245 [12,13,14,15,16,17,19,20],Dr (Mv 247 24) 11 [12,13,14,15,16,17,19,20],Dr (Ix 248 2 246 247) 12 [13,14,15,16,17,19,20],Db (Ld 249 248) 13 248 [14,15,16,17,19,20],⟨Nw 25 2 z2,18,.new true,[19,20],false,true⟩,⟨Ca 250 13 [T 242,T 249] (some (.mH [.agg s2,.one (.int .i64)])),14,.all,[15,16,17,19,20],false,false⟩,Dr (Mv 235 250) 15 [16,17,19,20],Dr (Ex 251 235 0) 16 [19,20],Dr (Ex 252 235 1) 17 [20],⟨Sr 2 25 251,19,.di (T 25),[20],true,true⟩,Dr (As 26 252) 20 []])
 (Rg [1,2,3,7,17,22,23,24,25] [Mv 253 22,Ld 254 25,Ca 255 14 [T 254] (some (.val (.agg s2))),Ro 256 (.buildSlice 2 1 z2 [(0,2,(T 255))]),⟨some 257,none,.op false (.cI (.call ⟨.builtin .append,#[T 253,T 256],#[23,23]⟩))⟩,As 22 257])))
 (Rg [1,2,3,7,17,22,23,24] [Mv 233 24,Bc 234 .add 3 233 .i64 1,As 24 234]))⟩),(40,⟨none,some [3,7,22,23,27],.seq (.seq (Rg [3,7,22,23,27] [Mv 258 27,Fa 259 1 3,Ro 260 (.aM .slice (T 259)),Ro 261 (.lg (T 260)),Bt 262 .lss 3 258 261])
 (.cond (T 262) .skip
 (.exit 6 (some [3,7,22,23]))))
 (.seq (.block 7 (Rg [3,7,22,23,27] [Mv 265 23,Ca 266 15 [.const (.int .i64 0),.const (.int .i64 1)] (some (.val (.agg s2))),Ro 267 (.buildSlice 2 1 z2 [(0,2,(T 266))]),⟨some 268,none,.op false (.cI (.call ⟨.builtin .append,#[T 265,T 267],#[23,23]⟩))⟩,As 23 268]))
 (Rg [3,7,22,23,27] [Mv 263 27,Bc 264 .add 3 263 .i64 1,As 27 264]))⟩)],
 []⟩
theorem nE: fH (progU ()) hint live 3 Tryz.f3=some r3:=by kernel_rfl
def r6 : me :=
⟨.seq (Rg [0] [Bo 1 2 0,Ac 2 0])
 (.seq (.seq (Rg [1] [Fa 6 0 1,Ro 7 (.aM .slice (T 6)),Ro 8 (.lg (T 7)),Bc 9 .gtr 3 8 .i64 4])
 (.cond (T 9) (.seq (Rg [] [Ac 2 4])
 .ret)
 .skip))
 (.seq (.seq (Rg [1] [Ac 3 0])
 (.block 0 (.loop 4 none (some [1,3]))))
 (.seq (.seq (Rg [1] [Fa 24 0 1,Ro 25 (.aM .slice (T 24)),Ro 26 (.lg (T 25)),Bc 27 .eql 3 26 .i64 0,Mv 28 27,Hf 29 28 (.fieldAddr 0 (T 1)),Hf 30 28 (.aM .slice (T 29)),Hf 31 28 (.qY 1 (T 30) (Ci 0)),Hf 32 28 (.aM .slice (T 31)),Hf 33 28 (.lg (T 32)),Gf 34 28 (.binOp .eql 3 (T 33) (Ci 0) 3),Ol 35 (.pick (T 28) (.const (.bool true)) (T 34)),Mv 36 35,Hf 37 36 (.fieldAddr 1 (T 1)),Hf 38 36 (.aM .slice (T 37)),Hf 39 36 (.lg (T 38)),Hf 40 36 (.fieldAddr 0 (T 1)),Hf 41 36 (.aM .slice (T 40)),Hf 42 36 (.lg (T 41)),Gf 43 36 (.binOp .neq 3 (T 39) (T 42) 3),Ol 44 (.pick (T 36) (.const (.bool true)) (T 43))])
 (.cond (T 44) (.seq (Rg [] [Ac 2 8])
 .ret)
 .skip))
 (.seq (.seq (Rg [1] [Ac 4 0])
 (.block 2 (.loop 11 (some [1,4]) (some [1,4]))))
 (.seq (Rg [] [Ac 2 0])
 .ret))))),
 [.tmp 2],
 [(4,⟨none,some [1,3],.seq (.seq (Rg [1,3] [Mv 10 3,Fa 11 0 1,Ro 12 (.aM .slice (T 11)),Ro 13 (.lg (T 12)),Bt 14 .lss 3 10 13])
 (.cond (T 14) .skip
 (.exit 0 (some [1]))))
 (.seq (.block 1 (.seq (Rg [1,3] [Fa 17 0 1,Ro 18 (.aM .slice (T 17)),Mv 19 3,Ix 20 1 18 19,Ro 21 (.aM .slice (T 20)),Ro 22 (.lg (T 21)),Bc 23 .gtr 3 22 .i64 4])
 (.cond (T 23) (.seq (Rg [] [Ac 2 4])
 .ret)
 .skip)))
 (Rg [1,3] [Mv 15 3,Bc 16 .add 3 15 .i64 1,As 3 16]))⟩),(11,⟨some [1,4],some [1,4],.seq (.seq (Rg [1,4] [Mv 45 4,Fa 46 0 1,Ro 47 (.aM .slice (T 46)),Ro 48 (.lg (T 47)),Bt 49 .lss 3 45 48])
 (.cond (T 49) .skip
 (.exit 2 (some []))))
 (.seq (.block 3 (.seq (.seq (.draw (some [1,4]) 30 [Dr (Fa 52 0 1) 0 [1,3,4,5,11,12,13,14,15,16,17,18,19,20,21,22,23,24,25,26,27,28,29],Db (Ro 53 (.aM .slice (T 52))) 1 52 [3,4,5,11,12,13,14,15,16,17,18,19,20,21,22,23,24,25,26,27,28,29],Dr (Mv 54 4) 2 [3,4,5,11,12,13,14,15,16,17,18,19,20,21,22,23,24,25,26,27,28,29],Dr (Ix 55 1 53 54) 3 [4,5,11,12,13,14,15,16,17,18,19,20,21,22,23,24,25,26,27,28,29],Db (Ro 56 (.aM .slice (T 55))) 4 55 [5,11,12,13,14,15,16,17,18,19,20,21,22,23,24,25,26,27,28,29],Dr (Ro 57 (.lg (T 56))) 5 [11,12,13,14,15,16,17,18,19,20,21,22,23,24,25,26,27,28,29],Dr (Fa 58 0 1) 6 [7,8,9,10,11,12,13,14,15,16,17,18,19,20,21,22,23,24,25,26,27,28,29],Db (Ro 59 (.aM .slice (T 58))) 7 58 [8,9,10,11,12,13,14,15,16,17,18,19,20,21,22,23,24,25,26,27,28,29],Dr (Ro 60 (.qY 1 (T 59) (Ci 0))) 8 [9,10,11,12,13,14,15,16,17,18,19,20,21,22,23,24,25,26,27,28,29],Db (Ro 61 (.aM .slice (T 60))) 9 60 [10,11,12,13,14,15,16,17,18,19,20,21,22,23,24,25,26,27,28,29],Dr (Ro 62 (.lg (T 61))) 10 [11,12,13,14,15,16,17,18,19,20,21,22,23,24,25,26,27,28,29],Dr (Bt 63 .neq 3 57 62) 11 [12,13,14,15,16,17,18,19,20,21,22,23,24,25,26,27,28,29],Dr (Mv 64 63) 12 [13,14,15,16,17,18,19,20,21,22,23,24,25,26,27,28,29],⟨Hf 65 64 (.fieldAddr 1 (T 1)),13,.none,[14,16,17,18,19,20,21,22,23,24,25,26,27,28,29],false,true⟩,⟨Hf 66 64 (.aM .slice (T 65)),14,.di (T 65),[16,17,18,19,20,21,22,23,24,25,26,27,28,29],false,true⟩,⟨Gf 67 64 (.move (T 4)),15,.none,[16,17,18,19,20,21,22,23,24,25,26,27,28,29],false,true⟩,⟨Hf 68 64 (.qY 2 (T 66) (T 67)),16,.none,[17,18,19,20,21,22,23,24,25,26,27,28,29],false,true⟩,⟨Hf 69 64 (.load 2 s2 (T 68)),17,.di (T 68),[18,19,20,21,22,23,24,25,26,27,28,29],false,true⟩,⟨⟨some 70,some (64,false),.call (.func 17) [T 69] vB⟩,18,.all,[19,20,21,22,23,24,25,26,27,28,29],false,false⟩,⟨Gf 71 64 (.unOp .not 4 (T 70)),19,.none,[20,21,22,23,24,25,26,27,28,29],false,true⟩,Dr (Ol 72 (.pick (T 64) (.const (.bool true)) (T 71))) 20 [21,22,23,24,25,26,27,28,29],Dr (Mv 73 72) 21 [22,23,24,25,26,27,28,29],⟨Hf 74 73 (.fieldAddr 1 (T 1)),22,.none,[23,25,26,27,28,29],false,true⟩,⟨Hf 75 73 (.aM .slice (T 74)),23,.di (T 74),[25,26,27,28,29],false,true⟩,⟨Gf 76 73 (.move (T 4)),24,.none,[25,26,27,28,29],false,true⟩,⟨Hf 77 73 (.qY 2 (T 75) (T 76)),25,.none,[26,27,28,29],false,true⟩,⟨Hf 78 73 (.fieldAddr 1 (T 77)),26,.none,[27,28,29],false,true⟩,⟨Hf 79 73 (.aM (.int .i64) (T 78)),27,.di (T 78),[28,29],false,true⟩,⟨Gf 80 73 (.binOp .gtr 2 (T 79) (Ci 60) 2),28,.none,[29],false,true⟩,Dr (Ol 81 (.pick (T 73) (.const (.bool true)) (T 80))) 29 []])
 (.cond (T 81) (.seq (Rg [] [Ac 2 8])
 .ret)
 .skip))
 (.seq (Rg [1,4] [Ac 5 0])
 (.block 4 (.loop 16 none (some [1,4,5]))))))
 (Rg [1,4] [Mv 50 4,Bc 51 .add 3 50 .i64 1,As 4 51]))⟩),(16,⟨none,some [1,4,5],.seq (.seq (Rg [1,4,5] [Mv 82 5,Fa 83 0 1,Ro 84 (.aM .slice (T 83)),Mv 85 4,Ix 86 1 84 85,Ro 87 (.aM .slice (T 86)),Ro 88 (.lg (T 87)),Bt 89 .lss 3 82 88])
 (.cond (T 89) .skip
 (.exit 4 (some [1,4]))))
 (.seq (.block 5 (.seq (Rg [1,4,5] [Fa 92 0 1,Ro 93 (.aM .slice (T 92)),Mv 94 4,Ix 95 1 93 94,Ro 96 (.aM .slice (T 95)),Mv 97 5,Ix 98 1 96 97,L1 99 98,Ol 100 (.binOp .lss 3 (T 99) (.const (.int .i64 (-9))) 3),Mv 101 100,Hf 102 101 (.fieldAddr 0 (T 1)),Hf 103 101 (.aM .slice (T 102)),Gf 104 101 (.move (T 4)),Hf 105 101 (.qY 1 (T 103) (T 104)),Hf 106 101 (.aM .slice (T 105)),Gf 107 101 (.move (T 5)),Hf 108 101 (.qY 1 (T 106) (T 107)),Hf 109 101 (.aM (.int .i64) (T 108)),Gf 110 101 (.binOp .gtr 3 (T 109) (Ci 9) 3),Ol 111 (.pick (T 101) (.const (.bool true)) (T 110))])
 (.cond (T 111) (.seq (Rg [] [Ac 2 8])
 .ret)
 .skip)))
 (Rg [1,4,5] [Mv 90 5,Bc 91 .add 3 90 .i64 1,As 5 91]))⟩)],
 []⟩
theorem rU: fH (progU ()) hint live 6 Tryz.f6=some r6:=by kernel_rfl
def x7:RX 7 Tryz.f7:=by constructor;conv=>lhs;cbv
def x8:RX 8 Tryz.f8:=by constructor;conv=>lhs;cbv
def x9:RX 9 Tryz.f9:=by constructor;conv=>lhs;cbv
end Go.Proofs.YtdpbiegfljmhmaaGreat
namespace Go.Proofs.YtdpbiegfljmhmaaGreat
open Go.cV
set_option maxRecDepth 100000
def x61:RX 61 Tryz.f61:=by constructor;conv=>lhs;cbv
def x62:RX 62 Tryz.f62:=by constructor;conv=>lhs;cbv
def x63:RX 63 Tryz.f63:=by constructor;conv=>lhs;cbv
def x64:RX 64 Tryz.f64:=by constructor;conv=>lhs;cbv
def x65:RX 65 Tryz.f65:=by constructor;conv=>lhs;cbv
def x66:RX 66 Tryz.f66:=by constructor;conv=>lhs;cbv
def x67:RX 67 Tryz.f67:=by constructor;conv=>lhs;cbv
def x68:RX 68 Tryz.f68:=by constructor;conv=>lhs;cbv
def x70:RX 70 Tryz.f70:=by constructor;conv=>lhs;cbv
def x71:RX 71 Tryz.f71:=by constructor;conv=>lhs;cbv
def r72 : me :=
⟨.seq (Rg [0] [Ac 2 0])
 (.seq (Rg [0] [Mv 11 0,Ol 12 (.makeFunc (.func 85) #[T 11] #[]),Mv 13 0,Ol 14 (.makeFunc (.func 86) #[T 13] #[]),As 3 12,As 4 14])
 (.seq (Rg [0,3,4] [Ac 5 1])
 (.seq (.seq (Rg [0,3,4,5] [Mv 15 0,Ol 16 (.nilCheck (T 15)),Fa 17 0 16,L1 18 17,Ol 19 (.move (Ci 0))])
 (.block 0 (.loop 4 (some [0,3,4,5,18,19]) (some [0,3,4,5,18,19]))))
 (.seq (Rg [5] [Mv 118 5,Mv 119 5,Ol 120 (.unOp .neg 3 (T 119)),⟨some 121,none,.op false (.cI (.call ⟨.builtin .max,#[T 118,T 120],#[3,3]⟩))⟩,As 2 121])
 .ret)))),
 [.tmp 2],
 [(4,⟨some [0,3,4,5,18,19],some [0,3,4,5,18,19],.seq (Rg [0,3,4,5,18,19] [Bt 20 .lss 3 19 18])
 (.seq (.cond (T 20) .skip
 (.exit 0 (some [5])))
 (.seq (.block 1 (.seq (Rg [0,3,4,5,18,19] [Mv 21 19,As 6 21])
 (.seq (Rg [0,3,4,5,6,18,19] [Mv 23 0,Mv 24 6,Ca 25 87 [T 23,T 24] (some (.mH [.agg s2,.one .bool])),Mv 22 25,Ex 26 22 0,Ex 27 22 1,Ro 7 (.new 2 z2),Sr 2 7 26,As 8 27])
 (.seq (.seq (Rg [0,3,4,5,6,7,8,18,19] [Mv 28 8,Ol 29 (.unOp .not 4 (T 28))])
 (.cond (T 29) (.seq (Rg [] [Ac 2 0])
 .ret)
 .skip))
 (.seq (.seq (Rg [0,3,4,5,6,7,18,19] [Ld 30 7,Mv 31 6,Mv 32 6,Ro 33 (.build z2 [(0,1,(T 31)),(1,1,(T 32))]),Bt 34 .neq 124 30 33])
 (.cond (T 34) (.seq (Rg [0,3,4,5,6,7,18,19] [Mv 35 3,Mv 36 6,Ro 37 (.wH 2 1 (T 7) (Ci 0)),L1 38 37,⟨some 39,none,.call (T 35) [T 36,T 38] (some (.mH []))⟩])
 (Rg [0,3,4,5,6,7,18,19] [Mv 40 4,Mv 41 6,Ro 42 (.wH 2 1 (T 7) (Ci 1)),L1 43 42,⟨some 44,none,.call (T 40) [T 41,T 43] (some (.mH []))⟩]))
 .skip))
 (.seq (.seq (Rg [0,3,4,5,6,18,19] [Mv 45 6,Bc 46 .add 3 45 .i64 1,As 9 46])
 (.block 2 (.loop 13 (some [0,3,4,5,6,9,18,19]) (some [0,3,4,5,6,9,18,19]))))
 (Rg [0,3,4,6,18,19] [Mv 109 0,Mv 110 6,Mv 111 6,Ol 112 (.nilCheck (T 109)),Fa 113 1 112,Ro 114 (.wH 4 4 (T 113) (T 110)),Ro 115 (.wH 4 1 (T 114) (T 111)),L1 116 115,As 5 116])))))))
 (Rg [0,3,4,5,18,19] [Bc 117 .add 3 19 .i64 1,Mv 19 117])))⟩),(13,⟨some [0,3,4,5,6,9,18,19],some [0,3,4,5,6,9,18,19],.seq (.seq (Rg [0,3,4,5,6,9,18,19] [Mv 47 9,Mv 48 0,Ol 49 (.nilCheck (T 48)),Fa 50 0 49,L1 51 50,Bt 52 .lss 3 47 51])
 (.cond (T 52) .skip
 (.exit 2 (some [0,3,4,6,18,19]))))
 (.seq (.block 3 (.seq (Rg [0,3,4,5,6,9,18,19] [Mv 55 6,Bc 56 .add 3 55 .i64 1,As 10 56])
 (.block 4 (.loop 16 (some [0,3,4,5,6,9,10,18,19]) (some [0,3,4,5,6,9,10,18,19])))))
 (Rg [0,3,4,5,6,9,18,19] [Mv 53 9,Bc 54 .add 3 53 .i64 1,As 9 54]))⟩),(16,⟨some [0,3,4,5,6,9,10,18,19],some [0,3,4,5,6,9,10,18,19],.seq (.seq (Rg [0,3,4,5,6,9,10,18,19] [Mv 57 10,Mv 58 0,Ol 59 (.nilCheck (T 58)),Fa 60 0 59,L1 61 60,Bt 62 .lss 3 57 61])
 (.cond (T 62) .skip
 (.exit 4 (some [0,3,4,5,6,9,18,19]))))
 (.seq (.block 5 (.draw (some [0,3,4,5,6,9,10,18,19]) 45 [Dr (Mv 65 0) 0 [40,41,42,43,44],Dr (Mv 66 9) 1 [42,43,44],Dr (Mv 67 10) 2 [43,44],Dr (Mv 68 0) 3 [6,7,8,9,10,19,37,39,43,44],Dr (Mv 69 6) 4 [8,9,10,19,37,39,43,44],Dr (Mv 70 6) 5 [9,10,19,37,39,43,44],Dr (Ol 71 (.nilCheck (T 68))) 6 [7,8,9,10,19,37,39,43,44],Dr (Fa 72 1 71) 7 [8,9,10,19,37,39,43,44],Dr (Ro 73 (.wH 4 4 (T 72) (T 69))) 8 [9,10,19,37,39,43,44],Dr (Ro 74 (.wH 4 1 (T 73) (T 70))) 9 [10,19,37,39,43,44],Db (L1 75 74) 10 74 [19,37,39,43,44],Dr (Mv 76 0) 11 [14,15,16,17,18,19,37,39,43,44],Dr (Mv 77 9) 12 [16,17,18,19,37,39,43,44],Dr (Mv 78 10) 13 [17,18,19,37,39,43,44],Dr (Ol 79 (.nilCheck (T 76))) 14 [15,16,17,18,19,37,39,43,44],Dr (Fa 80 1 79) 15 [16,17,18,19,37,39,43,44],Dr (Ro 81 (.wH 4 4 (T 80) (T 77))) 16 [17,18,19,37,39,43,44],Dr (Ro 82 (.wH 4 1 (T 81) (T 78))) 17 [18,19,37,39,43,44],Db (L1 83 82) 18 82 [19,37,39,43,44],Dr (Bt 84 .mul 3 75 83) 19 [37,39,43,44],Dr (Mv 85 0) 20 [23,24,25,26,27,36,37,39,43,44],Dr (Mv 86 9) 21 [25,26,27,36,37,39,43,44],Dr (Mv 87 6) 22 [26,27,36,37,39,43,44],Dr (Ol 88 (.nilCheck (T 85))) 23 [24,25,26,27,36,37,39,43,44],Dr (Fa 89 1 88) 24 [25,26,27,36,37,39,43,44],Dr (Ro 90 (.wH 4 4 (T 89) (T 86))) 25 [26,27,36,37,39,43,44],Dr (Ro 91 (.wH 4 1 (T 90) (T 87))) 26 [27,36,37,39,43,44],Db (L1 92 91) 27 91 [36,37,39,43,44],Dr (Mv 93 0) 28 [31,32,33,34,35,36,37,39,43,44],Dr (Mv 94 6) 29 [33,34,35,36,37,39,43,44],Dr (Mv 95 10) 30 [34,35,36,37,39,43,44],Dr (Ol 96 (.nilCheck (T 93))) 31 [32,33,34,35,36,37,39,43,44],Dr (Fa 97 1 96) 32 [33,34,35,36,37,39,43,44],Dr (Ro 98 (.wH 4 4 (T 97) (T 94))) 33 [34,35,36,37,39,43,44],Dr (Ro 99 (.wH 4 1 (T 98) (T 95))) 34 [35,36,37,39,43,44],Db (L1 100 99) 35 99 [36,37,39,43,44],Dr (Bt 101 .mul 3 92 100) 36 [37,39,43,44],Dr (Bt 102 .sub 3 84 101) 37 [39,43,44],Dr (Mv 103 5) 38 [39,43,44],Dr (Bt 104 .quo 3 102 103) 39 [43,44],Dr (Ol 105 (.nilCheck (T 65))) 40 [41,42,43,44],Dr (Fa 106 1 105) 41 [42,43,44],Dr (Ro 107 (.wH 4 4 (T 106) (T 66))) 42 [43,44],Dr (Ro 108 (.wH 4 1 (T 107) (T 67))) 43 [44],⟨Sr 1 108 104,44,.di (T 108),[],true,true⟩]))
 (Rg [0,3,4,5,6,9,10,18,19] [Mv 63 10,Bc 64 .add 3 63 .i64 1,As 10 64]))⟩)],
 []⟩
theorem ow: fH (progU ()) hint live 72 Tryz.f72=some r72:=by kernel_rfl
def r73 : me :=
⟨.seq (Rg [0,1] [Mv 8 0,Ol 9 (.makeFunc (.func 88) #[T 8] #[]),As 4 9])
 (.seq (.block 0 (.loop 1 (some [0,1,4]) (some [0,1,4])))
 (.seq (Rg [0,4] [Mv 127 0,Ol 128 (.nilCheck (T 127)),Fa 129 0 128,Ro 130 (.aM .slice (T 129)),Ro 131 (.lg (T 130)),Bc 132 .sub 3 131 .i64 1,As 7 132])
 (.block 4 (.loop 17 none (some [0,4,7]))))),
 [],
 [(1,⟨some [0,1,4],some [0,1,4],.block 1 (.seq (Rg [0,1,4] [Mv 10 4,Mv 11 1,⟨some 12,none,.call (T 10) [T 11] (some (.mH []))⟩])
 (.seq (Rg [0,1,4] [Mv 13 1,Ca 14 47 [T 13] vI,As 5 14])
 (.seq (.seq (Rg [0,1,4,5] [Mv 15 5,Mv 16 1,Ro 17 (.lg (T 16)),Bt 18 .eql 3 15 17])
 (.cond (T 18) .ret
 .skip))
 (.seq (Rg [0,1,4,5] [Ac 6 0])
 (.seq (.block 2 (.loop 5 none (some [0,1,4,5,6])))
 (.seq (.seq (Rg [0,1,4,5,6] [Mv 40 6,Mv 41 0,Ol 42 (.nilCheck (T 41)),Fa 43 0 42,Ro 44 (.aM .slice (T 43)),Ro 45 (.lg (T 44)),Bt 46 .eql 3 40 45,Mv 47 46,Gf 48 47 (.move (T 0)),Gf 49 47 (.nilCheck (T 48)),Hf 50 47 (.fieldAddr 0 (T 49)),Hf 51 47 (.aM .slice (T 50)),Gf 52 47 (.move (T 6)),Hf 53 47 (.qY 1 (T 51) (T 52)),Hf 54 47 (.aM .slice (T 53)),⟨some 55,some (47,false),.call (.func 47) [T 54] vI⟩,Gf 56 47 (.move (T 5)),Gf 57 47 (.binOp .gtr 3 (T 55) (T 56) 3),Ol 58 (.pick (T 47) (.const (.bool true)) (T 57))])
 (.cond (T 58) (.seq (.seq (Rg [0,1,4,5,6] [Mv 59 1,Mv 60 5,Ix 61 1 59 60,L1 62 61,Bc 63 .lss 3 62 .i64 0])
 (.cond (T 63) (.seq (Rg [0,1,4,6] [Mv 64 1,Mv 65 1,Ca 66 89 [T 64,T 65,.const (.int .i64 2)] (some (.mH []))])
 (Rg [0,1,4,6] [Mv 67 4,Mv 68 1,⟨some 69,none,.call (T 67) [T 68] (some (.mH []))⟩]))
 .skip))
 (.seq (Rg [0,1,4,6] [Mv 70 0,Mv 71 0,Ol 72 (.nilCheck (T 71)),Fa 73 0 72,Ro 74 (.aM .slice (T 73)),Mv 75 6,Mv 76 1,Ro 77 (.buildSlice 1 1 [.slice none 0 0] [(0,1,(T 76))]),Ca 78 90 [T 74,T 75,T 77] (some (.val (.one .slice))),Ol 79 (.nilCheck (T 70)),Fa 80 0 79,Sr 1 80 78])
 (.exit 0 (some [0,4]))))
 .skip))
 (.seq (.draw (some [0,1,4,5,6]) 24 [Dr (Mv 81 1) 0 [23],Dr (Mv 82 0) 1 [2,3,4,6,7,23],Dr (Ol 83 (.nilCheck (T 82))) 2 [3,4,6,7,23],Dr (Fa 84 0 83) 3 [4,6,7,23],Db (Ro 85 (.aM .slice (T 84))) 4 84 [6,7,23],Dr (Mv 86 6) 5 [6,7,23],Dr (Ix 87 1 85 86) 6 [7,23],Db (Ro 88 (.aM .slice (T 87))) 7 87 [23],Dr (Mv 89 1) 8 [10,11,22,23],Dr (Mv 90 5) 9 [10,11,22,23],Dr (Ix 91 1 89 90) 10 [11,22,23],Db (L1 92 91) 11 91 [22,23],Dr (Mv 93 0) 12 [13,14,15,17,18,20,21,22,23],Dr (Ol 94 (.nilCheck (T 93))) 13 [14,15,17,18,20,21,22,23],Dr (Fa 95 0 94) 14 [15,17,18,20,21,22,23],Db (Ro 96 (.aM .slice (T 95))) 15 95 [17,18,20,21,22,23],Dr (Mv 97 6) 16 [17,18,20,21,22,23],Dr (Ix 98 1 96 97) 17 [18,20,21,22,23],Db (Ro 99 (.aM .slice (T 98))) 18 98 [20,21,22,23],Dr (Mv 100 5) 19 [20,21,22,23],Dr (Ix 101 1 99 100) 20 [21,22,23],Db (L1 102 101) 21 101 [22,23],⟨Ca 103 49 [T 92,T 102] vI,22,.all,[23],false,false⟩,⟨Ca 104 89 [T 81,T 88,T 103] (some (.mH [])),23,.all,[],false,false⟩])
 (.seq (Rg [0,1,4,5,6] [Mv 105 1,Mv 106 5,Ix 107 1 105 106,L1 108 107,Bc 109 .neq 3 108 .i64 0])
 (.cond (T 109) (.seq (Rg [0,1,4,6] [Mv 110 4,Mv 111 1,⟨some 112,none,.call (T 110) [T 111] (some (.mH []))⟩])
 (.draw (some [0,1,4,6]) 16 [Dr (Mv 113 0) 0 [1,2,3,14,15],Dr (Ol 114 (.nilCheck (T 113))) 1 [2,3,14,15],Dr (Fa 115 0 114) 2 [3,14,15],Db (Ro 116 (.aM .slice (T 115))) 3 115 [14,15],Dr (Mv 117 6) 4 [14,15],Dr (Mv 118 0) 5 [6,7,8,10,11,13,14,15],Dr (Ol 119 (.nilCheck (T 118))) 6 [7,8,10,11,13,14,15],Dr (Fa 120 0 119) 7 [8,10,11,13,14,15],Db (Ro 121 (.aM .slice (T 120))) 8 120 [10,11,13,14,15],Dr (Mv 122 6) 9 [10,11,13,14,15],Dr (Ix 123 1 121 122) 10 [11,13,14,15],Db (Ro 124 (.aM .slice (T 123))) 11 123 [13,14,15],Dr (Mv 125 1) 12 [13,14,15],Dr (As 1 124) 13 [14,15],Dr (Ix 126 1 116 117) 14 [15],⟨Sr 1 126 125,15,.di (T 126),[],true,true⟩]))
 .skip)))))))))⟩),(5,⟨none,some [0,1,4,5,6],.seq (.seq (Rg [0,1,4,5,6] [Mv 19 6,Mv 20 0,Ol 21 (.nilCheck (T 20)),Fa 22 0 21,Ro 23 (.aM .slice (T 22)),Ro 24 (.lg (T 23)),Bt 25 .lss 3 19 24,Mv 26 25,Gt 27 26 (.move (T 0)),Gt 28 26 (.nilCheck (T 27)),Ht 29 26 (.fieldAddr 0 (T 28)),Ht 30 26 (.aM .slice (T 29)),Gt 31 26 (.move (T 6)),Ht 32 26 (.qY 1 (T 30) (T 31)),Ht 33 26 (.aM .slice (T 32)),⟨some 34,some (26,true),.call (.func 47) [T 33] vI⟩,Gt 35 26 (.move (T 5)),Gt 36 26 (.binOp .lss 3 (T 34) (T 35) 3),Ol 37 (.pick (T 26) (T 36) (.const (.bool false)))])
 (.cond (T 37) .skip
 (.exit 2 (some [0,1,4,5,6]))))
 (.block 3 (Rg [0,1,4,5,6] [Mv 38 6,Bc 39 .add 3 38 .i64 1,As 6 39]))⟩),(17,⟨none,some [0,4,7],.seq (.seq (Rg [0,4,7] [Mv 133 7,Bc 134 .geq 3 133 .i64 0])
 (.cond (T 134) .skip
 (.exit 4 (some []))))
 (.seq (.block 5 (Rg [0,4,7] [Mv 137 4,Mv 138 0,Ol 139 (.nilCheck (T 138)),Fa 140 0 139,Ro 141 (.aM .slice (T 140)),Mv 142 7,Ix 143 1 141 142,Ro 144 (.aM .slice (T 143)),⟨some 145,none,.call (T 137) [T 144] (some (.mH []))⟩]))
 (Rg [0,4,7] [Mv 135 7,Bc 136 .sub 3 135 .i64 1,As 7 136]))⟩)],
 []⟩
theorem uT: fH (progU ()) hint live 73 Tryz.f73=some r73:=by kernel_rfl
def r74 : me :=
⟨.seq (Rg [0,1,2,3,4] [Ol 10 (.assign (.const (.bool true)))])
 (.seq (Rg [0,1,2,3,4,10] [Ol 11 (.assign (.const (.bool true)))])
 (.block 0 (.loop 2 (some [0,1,2,3,4,10,11]) (some [0,1,2,3,4,10,11])))),
 [],
 [(2,⟨some [0,1,2,3,4,10,11],some [0,1,2,3,4,10,11],.block 1 (.seq (Rg [0,1,2,3,4,10,11] [Mv 21 2,Mv 22 1,Bt 23 .sub 3 21 22,As 12 23])
 (.seq (.seq (Rg [0,1,2,3,4,10,11,12] [Mv 24 12,Bc 25 .leq 3 24 .i64 12])
 (.cond (T 25) (.seq (Rg [0,1,2,4] [Mv 26 0,Mv 27 1,Mv 28 2,Mv 29 4,Ca 30 91 [T 26,T 27,T 28,T 29] (some (.mH []))])
 .ret)
 .skip))
 (.seq (.seq (Rg [0,1,2,3,4,10,11,12] [Mv 31 3,Bc 32 .eql 3 31 .i64 0])
 (.cond (T 32) (.seq (Rg [0,1,2,4] [Mv 33 0,Mv 34 1,Mv 35 2,Mv 36 4,Ca 37 92 [T 33,T 34,T 35,T 36] (some (.mH []))])
 .ret)
 .skip))
 (.seq (.seq (Rg [0,1,2,3,4,10,11,12] [Mv 38 10,Ol 39 (.unOp .not 4 (T 38))])
 (.cond (T 39) (.seq (Rg [0,1,2,3,4,10,11,12] [Mv 40 0,Mv 41 1,Mv 42 2,Mv 43 4,Ca 44 93 [T 40,T 41,T 42,T 43] (some (.mH []))])
 (Rg [0,1,2,3,4,10,11,12] [Mv 45 3,Bc 46 .sub 3 45 .i64 1,As 3 46]))
 .skip))
 (.seq (Rg [0,1,2,3,4,10,11,12] [Mv 48 0,Mv 49 1,Mv 50 2,Mv 51 4,Ca 52 94 [T 48,T 49,T 50,T 51] (some (.mH [.one (.int .i64),.one (.int .i64)])),Mv 47 52,Ex 53 47 0,Ex 54 47 1,As 13 53,As 14 54])
 (.seq (.seq (Rg [0,1,2,3,4,10,11,12,13,14] [Mv 55 14,Bc 56 .eql 131 55 .i64 2])
 (.cond (T 56) (.seq (Rg [0,1,2,3,4,10,11,12,13] [Mv 57 0,Mv 58 1,Mv 59 2,Mv 60 4,Ca 61 95 [T 57,T 58,T 59,T 60] (some (.mH []))])
 (.seq (Rg [0,1,2,3,4,10,11,12,13] [Mv 62 2,Bc 63 .sub 3 62 .i64 1,Mv 64 13,Mv 65 1,Bt 66 .sub 3 64 65,Bt 67 .sub 3 63 66,As 13 67])
 (Rg [0,1,2,3,4,10,11,12,13] [Ac 14 1])))
 .skip))
 (.seq (.seq (Rg [0,1,2,3,4,10,11,12,13,14] [Mv 68 10,Mv 69 68,Gt 70 69 (.move (T 11)),Ol 71 (.pick (T 69) (T 70) (.const (.bool false))),Mv 72 71,Gt 73 72 (.move (T 14)),Gt 74 72 (.binOp .eql 131 (T 73) (Ci 1) 131),Ol 75 (.pick (T 72) (T 74) (.const (.bool false)))])
 (.cond (T 75) (.seq (Rg [0,1,2,3,4,10,11,12,13] [Mv 76 0,Mv 77 1,Mv 78 2,Mv 79 4,Ca 80 96 [T 76,T 77,T 78,T 79] vB])
 (.cond (T 80) .ret
 .skip))
 .skip))
 (.seq (.seq (.draw (some [0,1,2,3,4,10,11,12,13]) 17 [Dr (Mv 81 1) 0 [1,2,3,4,5,6,7,8,9,10,11,12,13,14,15,16],Dr (Bc 82 .gtr 3 81 .i64 0) 1 [2,3,4,5,6,7,8,9,10,11,12,13,14,15,16],Dr (Mv 83 82) 2 [3,4,5,6,7,8,9,10,11,12,13,14,15,16],⟨Gt 84 83 (.move (T 4)),3,.none,[13,14,15,16],false,true⟩,⟨Gt 85 83 (.move (T 0)),4,.none,[7,8,13,14,15,16],false,true⟩,⟨Gt 86 83 (.move (T 1)),5,.none,[6,7,8,13,14,15,16],false,true⟩,⟨Gt 87 83 (.binOp .sub 3 (T 86) (Ci 1) 3),6,.none,[7,8,13,14,15,16],false,true⟩,⟨Ht 88 83 (.qY 1 (T 85) (T 87)),7,.none,[8,13,14,15,16],false,true⟩,⟨Ht 89 83 (.aM .slice (T 88)),8,.di (T 88),[13,14,15,16],false,true⟩,⟨Gt 90 83 (.move (T 0)),9,.none,[11,12,13,14,15,16],false,true⟩,⟨Gt 91 83 (.move (T 13)),10,.none,[11,12,13,14,15,16],false,true⟩,⟨Ht 92 83 (.qY 1 (T 90) (T 91)),11,.none,[12,13,14,15,16],false,true⟩,⟨Ht 93 83 (.aM .slice (T 92)),12,.di (T 92),[13,14,15,16],false,true⟩,⟨⟨some 94,some (83,true),.call (T 84) [T 89,T 93] vI⟩,13,.all,[14,15,16],false,false⟩,⟨Gt 95 83 (.binOp .lss 3 (T 94) (Ci 0) 3),14,.none,[15,16],false,true⟩,⟨Gt 96 83 (.unOp .not 4 (T 95)),15,.none,[16],false,true⟩,Dr (Ol 97 (.pick (T 83) (T 96) (.const (.bool false)))) 16 []])
 (.cond (T 97) (.seq (Rg [0,1,2,3,4,10,11,13] [Mv 98 0,Mv 99 1,Mv 100 2,Mv 101 13,Mv 102 4,Ca 103 97 [T 98,T 99,T 100,T 101,T 102] vI,As 15 103])
 (.seq (Rg [0,2,3,4,10,11,15] [Mv 104 15,As 1 104])
 (.exit 1 (some [0,1,2,3,4,10,11]))))
 .skip))
 (.seq (Rg [0,1,2,3,4,12,13] [Mv 106 0,Mv 107 1,Mv 108 2,Mv 109 13,Mv 110 4,Ca 111 98 [T 106,T 107,T 108,T 109,T 110] (some (.mH [.one (.int .i64),.one .bool])),Mv 105 111,Ex 112 105 0,Ex 113 105 1,As 16 112,As 17 113])
 (.seq (Rg [0,1,2,3,4,12,16,17] [Mv 114 17,As 11 114])
 (.seq (Rg [0,1,2,3,4,11,12,16] [Mv 115 16,Mv 116 1,Bt 117 .sub 3 115 116,Mv 118 2,Mv 119 16,Bt 120 .sub 3 118 119,As 18 117,As 19 120])
 (.seq (Rg [0,1,2,3,4,11,12,16,18,19] [Mv 121 12,Bc 122 .quo 3 121 .i64 8,As 20 122])
 (.seq (Rg [0,1,2,3,4,11,16,18,19,20] [Mv 123 18,Mv 124 19,Bt 125 .lss 3 123 124])
 (.cond (T 125) (.seq (Rg [0,1,2,3,4,11,16,18,20] [Mv 126 18,Mv 127 20,Bt 128 .geq 3 126 127,As 10 128])
 (.seq (Rg [0,1,2,3,4,10,11,16] [Mv 129 0,Mv 130 1,Mv 131 16,Mv 132 3,Mv 133 4,Ca 134 74 [T 129,T 130,T 131,T 132,T 133] (some (.mH []))])
 (Rg [0,2,3,4,10,11,16] [Mv 135 16,Bc 136 .add 3 135 .i64 1,As 1 136])))
 (.seq (Rg [0,1,2,3,4,11,16,19,20] [Mv 137 19,Mv 138 20,Bt 139 .geq 3 137 138,As 10 139])
 (.seq (Rg [0,1,2,3,4,10,11,16] [Mv 140 0,Mv 141 16,Bc 142 .add 3 141 .i64 1,Mv 143 2,Mv 144 3,Mv 145 4,Ca 146 74 [T 140,T 142,T 143,T 144,T 145] (some (.mH []))])
 (Rg [0,1,3,4,10,11,16] [Mv 147 16,As 2 147])))))))))))))))))⟩)],
 []⟩
theorem Gx: fH (progU ()) hint live 74 Tryz.f74=some r74:=by kernel_rfl
def x75:RX 75 Tryz.f75:=by constructor;conv=>lhs;cbv
def x76:RX 76 Tryz.f76:=by constructor;conv=>lhs;cbv
def x77:RX 77 Tryz.f77:=by constructor;conv=>lhs;cbv
def x78:RX 78 Tryz.f78:=by constructor;conv=>lhs;cbv
def x79:RX 79 Tryz.f79:=by constructor;conv=>lhs;cbv
def r80 : me :=
⟨.seq (Rg [0,1] [Bo 2 2 0,Bo 3 2 1,Nw 4 2 z2,Ac 5 0])
 (.seq (.draw (some [2,3,4]) 16 [Dr (Fa 16 0 2) 0 [1,2,5,8,11,12,13,14,15],Db (L1 17 16) 1 16 [2,5,8,11,12,13,14,15],Dr (Fa 19 1 2) 3 [4,5,8,11,12,13,14,15],Db (L1 20 19) 4 19 [5,8,11,12,13,14,15],Dr (Fa 22 0 3) 6 [7,8,11,12,13,14,15],Db (L1 23 22) 7 22 [8,11,12,13,14,15],Dr (Fa 25 1 3) 9 [10,11,12,13,14,15],Db (L1 26 25) 10 25 [11,12,13,14,15],⟨Ca 18 52 [T 17] (some (.val (.one (.int .u64)))),2,.all,[5,8,11,12,13,14,15],false,false⟩,⟨Ca 21 52 [T 20] (some (.val (.one (.int .u64)))),5,.all,[8,11,12,13,14,15],false,false⟩,⟨Ca 24 52 [T 23] (some (.val (.one (.int .u64)))),8,.all,[11,12,13,14,15],false,false⟩,⟨Ca 27 52 [T 26] (some (.val (.one (.int .u64)))),11,.all,[12,13,14,15],false,false⟩,Dr (As 6 18) 12 [13,14,15],Dr (As 7 21) 13 [14,15],Dr (As 8 24) 14 [15],Dr (As 9 27) 15 []])
 (.seq (Rg [2,3,4,6,7,8,9] [Mv 28 6,Mv 29 9,Ca 30 53 [T 28,T 29] (some (.val (.one (.int .u64)))),Mv 31 8,Mv 32 7,Ca 33 53 [T 31,T 32] (some (.val (.one (.int .u64)))),As 10 30,As 11 33])
 (.seq (.draw (some [2,3,4,6,7,8,9,10,11]) 12 [Dr (Mv 35 6) 0 [2,6,7,8,9,10,11],Dr (Mv 36 10) 1 [2,6,7,8,9,10,11],Dr (Bt 37 .quo 85 35 36) 2 [6,7,8,9,10,11],Dr (Mv 38 8) 3 [5,6,7,8,9,10,11],Dr (Mv 39 11) 4 [5,6,7,8,9,10,11],Dr (Bt 40 .quo 85 38 39) 5 [6,7,8,9,10,11],⟨Ca 41 102 [T 37,T 40] (some (.mH [.one (.int .u64),.one (.int .u64)])),6,.all,[7,8,9,10,11],false,false⟩,Dr (Mv 34 41) 7 [8,9,10,11],Dr (Ex 42 34 0) 8 [10,11],Dr (Ex 43 34 1) 9 [11],Dr (As 12 42) 10 [11],Dr (As 13 43) 11 []])
 (.seq (.draw (some [2,3,4,7,9,10,11,12,13]) 12 [Dr (Mv 45 7) 0 [2,6,7,8,9,10,11],Dr (Mv 46 11) 1 [2,6,7,8,9,10,11],Dr (Bt 47 .quo 85 45 46) 2 [6,7,8,9,10,11],Dr (Mv 48 9) 3 [5,6,7,8,9,10,11],Dr (Mv 49 10) 4 [5,6,7,8,9,10,11],Dr (Bt 50 .quo 85 48 49) 5 [6,7,8,9,10,11],⟨Ca 51 102 [T 47,T 50] (some (.mH [.one (.int .u64),.one (.int .u64)])),6,.all,[7,8,9,10,11],false,false⟩,Dr (Mv 44 51) 7 [8,9,10,11],Dr (Ex 52 44 0) 8 [10,11],Dr (Ex 53 44 1) 9 [11],Dr (As 14 52) 10 [11],Dr (As 15 53) 11 []])
 (.seq (.seq (Rg [2,3,4,12,13,14,15] [Mv 54 12,Bc 55 .neq 85 54 .u64 0,Mv 56 55,Gf 57 56 (.move (T 14)),Gf 58 56 (.binOp .neq 85 (T 57) (.const (.int .u64 0)) 85),Ol 59 (.pick (T 56) (.const (.bool true)) (T 58))])
 (.cond (T 59) (.seq (Rg [4] [Ro 60 (.build z2 []),Sr 2 4 60,Ac 5 16])
 .ret)
 .skip))
 (.seq (Rg [2,3,4,13,15] [Fa 61 0 2,L1 62 61,Bc 63 .lss 2 62 .i64 0,Fa 64 0 3,L1 65 64,Bc 66 .lss 2 65 .i64 0,Bt 67 .neq 4 63 66,Mv 68 13,Mv 69 15,Ca 70 54 [T 67,T 68,T 69] (some (.mH [.agg s2,.one (.int .i64)])),Ex 71 70 0,Ex 72 70 1,Sr 2 4 71,As 5 72])
 .ret)))))),
 [.agg 4 2 [.int .i64,.int .i64],.tmp 5],
 [],
 []⟩
theorem S4: fH (progU ()) hint live 80 Tryz.f80=some r80:=by kernel_rfl
