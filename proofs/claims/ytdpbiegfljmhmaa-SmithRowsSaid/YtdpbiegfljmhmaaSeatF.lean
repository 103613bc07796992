import Derived.Test.YtdpbiegfljmhmaaSeat0
import Derived.Test.YtdpbiegfljmhmaaSmG
set_option linter.unusedSimpArgs false
set_option linter.unusedVariables false
namespace Go.Proofs.Ytdpbiegfljmhmaa
open Go.cY
set_option maxRecDepth 100000
def r5 : k9 :=
⟨.seq (Rg [0,1,2] [Bo 3 2 0,Ol 6 (.assign (.const (.bool false)))])
 (.seq (Rg [1,2,3] [Ca 31 16 [] vB,As 7 31])
 (.seq (.seq (Rg [1,2,3,7] [Ro 32 (.load 2 [.slice,.slice] (T 3)),Ca 33 13 [T 32] vI,Bc 34 .neq 3 33 .i64 0,Mv 35 34,Gf 36 35 (.move (T 1)),Gf 37 35 (.binOp .lss 3 (T 36) (Ci 0) 3),Ol 38 (.pick (T 35) (.const (.bool true)) (T 37)),Mv 39 38,Gf 40 39 (.move (T 2)),Gf 41 39 (.binOp .lss 3 (T 40) (Ci 0) 3),Ol 42 (.pick (T 39) (.const (.bool true)) (T 41)),Mv 43 42,Gf 44 43 (.move (T 1)),Hf 45 43 (.fieldAddr 0 (T 3)),Hf 46 43 (.aF .slice (T 45)),Hf 47 43 (.kq (T 46)),Gf 48 43 (.binOp .geq 3 (T 44) (T 47) 3),Ol 49 (.pick (T 43) (.const (.bool true)) (T 48)),Mv 50 49,Gf 51 50 (.move (T 2)),Hf 52 50 (.fieldAddr 0 (T 3)),Hf 53 50 (.aF .slice (T 52)),Hf 54 50 (.kq (T 53)),Gf 55 50 (.binOp .geq 3 (T 51) (T 54) 3),Ol 56 (.pick (T 50) (.const (.bool true)) (T 55)),Mv 57 56,Gf 58 57 (.move (T 1)),Gf 59 57 (.move (T 2)),Gf 60 57 (.binOp .eql 3 (T 58) (T 59) 3),Ol 61 (.pick (T 57) (.const (.bool true)) (T 60)),Mv 62 61,Gf 63 62 (.move (T 7)),Gf 64 62 (.unOp .not 4 (T 63)),Ol 65 (.pick (T 62) (.const (.bool true)) (T 64))])
 (.cond (T 65) (.seq (Rg [7] [Mv 66 7,As 6 66])
 .ret)
 .skip))
 (.seq (Rg [1,2,3,7] [Nw 8 2 [.slice none 0 0,.slice none 0 0],Nw 9 2 [.slice none 0 0,.slice none 0 0],Nw 10 2 [.slice none 0 0,.slice none 0 0]])
 (.seq (.seq (Rg [1,2,3,7,8,9,10] [Ac 11 0])
 (.block 0 (.loop 6 (some [1,2,3,7,8,9,10,11]) (some [1,2,3,7,8,9,10,11]))))
 (.seq (.seq (Rg [1,2,3,7,8,9,10] [Ac 14 0])
 (.block 4 (.loop 17 (some [1,2,3,7,8,9,10,14]) (some [1,2,3,7,8,9,10,14]))))
 (.seq (.draw (some [1,2,3,7,8,9,10]) 17 [Dr (Fa 192 1 3) 0 [1,3,4,10,11,12,13,15,16],Db (Ro 193 (.aF .slice (T 192))) 1 192 [3,4,10,11,12,13,15,16],Dr (Mv 194 1) 2 [3,4,10,11,12,13,15,16],Dr (Ix 195 2 193 194) 3 [4,10,11,12,13,15,16],Db (Ld 196 195) 4 195 [10,11,12,13,15,16],Dr (Fa 197 1 3) 5 [6,8,9,10,11,12,13,15,16],Db (Ro 198 (.aF .slice (T 197))) 6 197 [8,9,10,11,12,13,15,16],Dr (Mv 199 2) 7 [8,9,10,11,12,13,15,16],Dr (Ix 200 2 198 199) 8 [9,10,11,12,13,15,16],Db (Ld 201 200) 9 200 [10,11,12,13,15,16],⟨Nw 15 2 z2,14,.new true,[15,16],false,true⟩,⟨Ca 202 19 [T 196,T 201] (some (.mr [.agg s2,.one (.int .i64)])),10,.all,[11,12,13,15,16],false,false⟩,Dr (Mv 191 202) 11 [12,13,15,16],Dr (Ex 203 191 0) 12 [15,16],Dr (Ex 204 191 1) 13 [16],⟨Sr 2 15 203,15,.dh (T 15),[16],true,true⟩,Dr (As 16 204) 16 []])
 (.seq (.draw (some [1,3,7,8,9,10,15]) 7 [Dr (Fa 205 1 9) 0 [1,5,6],Db (Ro 206 (.aF .slice (T 205))) 1 205 [5,6],Dr (Mv 207 1) 2 [5,6],Db (Ld 208 15) 3 15 [4,5,6],⟨Ca 209 20 [T 208] (some (.val (.agg s2))),4,.all,[5,6],false,false⟩,Dr (Ix 210 2 206 207) 5 [6],⟨Sr 2 210 209,6,.dh (T 210),[],true,true⟩])
 (.seq (Rg [3,7,8,9,10] [Ro 212 (.load 2 [.slice,.slice] (T 3)),Ca 213 8 [T 212] (some (.mr [.one .slice,.one (.int .i64)])),Mv 211 213,Ex 214 211 0,Ex 215 211 1,As 17 214,As 18 215])
 (.seq (Rg [3,7,8,9,10,17,18] [Ro 217 (.load 2 [.slice,.slice] (T 8)),Ca 218 8 [T 217] (some (.mr [.one .slice,.one (.int .i64)])),Mv 216 218,Ex 219 216 0,Ex 220 216 1,As 19 219,As 20 220])
 (.seq (Rg [3,7,8,9,10,17,18,19,20] [Ro 222 (.load 2 [.slice,.slice] (T 10)),Ca 223 8 [T 222] (some (.mr [.one .slice,.one (.int .i64)])),Mv 221 223,Ex 224 221 0,Ex 225 221 1,As 21 224,As 22 225])
 (.seq (Rg [3,7,8,9,17,18,19,20,21,22] [Ro 227 (.load 2 [.slice,.slice] (T 3)),Ca 228 21 [T 227] (some (.mr [.one .slice,.one (.int .i64)])),Mv 226 228,Ex 229 226 0,Ex 230 226 1,As 23 229,As 24 230])
 (.seq (Rg [7,8,9,17,18,19,20,21,22,23,24] [Ro 232 (.load 2 [.slice,.slice] (T 8)),Ca 233 21 [T 232] (some (.mr [.one .slice,.one (.int .i64)])),Mv 231 233,Ex 234 231 0,Ex 235 231 1,As 25 234,As 26 235])
 (.seq (.seq (Rg [7,9,17,18,19,20,21,22,23,24,25,26] [Mv 236 18,Bc 237 .neq 28 236 .i64 0,Mv 238 237,Gf 239 238 (.move (T 20)),Gf 240 238 (.binOp .neq 28 (T 239) (Ci 0) 28),Ol 241 (.pick (T 238) (.const (.bool true)) (T 240)),Mv 242 241,Gf 243 242 (.move (T 22)),Gf 244 242 (.binOp .neq 28 (T 243) (Ci 0) 28),Ol 245 (.pick (T 242) (.const (.bool true)) (T 244)),Mv 246 245,Gf 247 246 (.move (T 17)),Gf 248 246 (.move (T 19)),⟨some 249,some (246,false),.call (.func 14) [T 247,T 248] vB⟩,Gf 250 246 (.unOp .not 4 (T 249)),Ol 251 (.pick (T 246) (.const (.bool true)) (T 250)),Mv 252 251,Gf 253 252 (.move (T 17)),Gf 254 252 (.move (T 21)),⟨some 255,some (252,false),.call (.func 14) [T 253,T 254] vB⟩,Gf 256 252 (.unOp .not 4 (T 255)),Ol 257 (.pick (T 252) (.const (.bool true)) (T 256)),Mv 258 257,Gf 259 258 (.move (T 24)),Gf 260 258 (.move (T 26)),Gf 261 258 (.binOp .neq 28 (T 259) (T 260) 28),Ol 262 (.pick (T 258) (.const (.bool true)) (T 261)),Mv 263 262,Gf 264 263 (.move (T 23)),Gf 265 263 (.move (T 25)),⟨some 266,some (263,false),.call (.func 22) [T 264,T 265] vB⟩,Gf 267 263 (.unOp .not 4 (T 266)),Ol 268 (.pick (T 263) (.const (.bool true)) (T 267))])
 (.cond (T 268) (.seq (Rg [] [Ol 6 (.assign (.const (.bool false)))])
 .ret)
 .skip))
 (.seq (.seq (Rg [7,9,17,23,24] [Ro 269 (.load 2 [.slice,.slice] (T 9)),Ca 270 13 [T 269] vI,Bc 271 .neq 3 270 .i64 0])
 (.cond (T 271) (.seq (Rg [7] [Mv 272 7,As 6 272])
 .ret)
 .skip))
 (.seq (Rg [7,9,17,23,24] [Ro 274 (.load 2 [.slice,.slice] (T 9)),Ca 275 8 [T 274] (some (.mr [.one .slice,.one (.int .i64)])),Mv 273 275,Ex 276 273 0,Ex 277 273 1,As 27 276,As 28 277])
 (.seq (Rg [7,9,17,23,24,27,28] [Ro 279 (.load 2 [.slice,.slice] (T 9)),Ca 280 21 [T 279] (some (.mr [.one .slice,.one (.int .i64)])),Mv 278 280,Ex 281 278 0,Ex 282 278 1,As 29 281,As 30 282])
 (.seq (Rg [7,17,23,24,27,28,29,30] [Mv 283 7,Mv 284 283,Gt 285 284 (.move (T 28)),Gt 286 284 (.binOp .eql 28 (T 285) (Ci 0) 28),Ol 287 (.pick (T 284) (T 286) (.const (.bool false))),Mv 288 287,Gt 289 288 (.move (T 17)),Gt 290 288 (.move (T 27)),⟨some 291,some (288,true),.call (.func 14) [T 289,T 290] vB⟩,Ol 292 (.pick (T 288) (T 291) (.const (.bool false))),Mv 293 292,Gt 294 293 (.move (T 30)),Gt 295 293 (.move (T 24)),Gt 296 293 (.binOp .eql 28 (T 294) (T 295) 28),Ol 297 (.pick (T 293) (T 296) (.const (.bool false))),Mv 298 297,Gt 299 298 (.move (T 23)),Gt 300 298 (.move (T 29)),⟨some 301,some (298,true),.call (.func 22) [T 299,T 300] vB⟩,Ol 302 (.pick (T 298) (T 301) (.const (.bool false))),As 6 302])
 .ret))))))))))))))))),
 [.tmp 6],
 [(6,⟨some [1,2,3,7,8,9,10,11],some [1,2,3,7,8,9,10,11],.seq (.seq (Rg [1,2,3,7,8,9,10,11] [Mv 67 11,Fa 68 0 3,Ro 69 (.aF .slice (T 68)),Ro 70 (.kq (T 69)),Bt 71 .lss 3 67 70])
 (.cond (T 71) .skip
 (.exit 0 (some [1,2,3,7,8,9,10]))))
 (.seq (.block 1 (.seq (.draw (some [1,2,3,7,8,9,10,11]) 32 [Dr (Fa 74 0 8) 0 [1,13,27,28,29,30,31],Db (Ro 75 (.aF .slice (T 74))) 1 74 [13,27,28,29,30,31],Dr (Fa 76 0 3) 2 [3,10,11,12,13,27,28,29,30,31],Db (Ro 77 (.aF .slice (T 76))) 3 76 [10,11,12,13,27,28,29,30,31],Dr (Fa 78 0 3) 4 [5,6,7,9,10,11,12,13,27,28,29,30,31],Db (Ro 79 (.aF .slice (T 78))) 5 78 [6,7,9,10,11,12,13,27,28,29,30,31],Dr (Ro 80 (.kq (T 79))) 6 [7,9,10,11,12,13,27,28,29,30,31],Dr (Bc 81 .sub 3 80 .i64 1) 7 [9,10,11,12,13,27,28,29,30,31],Dr (Mv 82 11) 8 [9,10,11,12,13,27,28,29,30,31],Dr (Bt 83 .sub 3 81 82) 9 [10,11,12,13,27,28,29,30,31],Dr (Ix 84 1 77 83) 10 [11,12,13,27,28,29,30,31],Db (Ro 85 (.aF .slice (T 84))) 11 84 [12,13,27,28,29,30,31],⟨Ro 86 (.buildSlice 1 1 [.slice none 0 0] [(0,1,(T 85))]),12,.new false,[13,27,28,29,30,31],false,true⟩,Dr (Fa 88 1 8) 14 [15,27,28,29,30,31],Db (Ro 89 (.aF .slice (T 88))) 15 88 [27,28,29,30,31],Dr (Fa 90 1 3) 16 [17,24,25,26,27,29,30,31],Db (Ro 91 (.aF .slice (T 90))) 17 90 [24,25,26,27,29,30,31],Dr (Fa 92 0 3) 18 [19,20,21,23,24,25,26,27,29,30,31],Db (Ro 93 (.aF .slice (T 92))) 19 92 [20,21,23,24,25,26,27,29,30,31],Dr (Ro 94 (.kq (T 93))) 20 [21,23,24,25,26,27,29,30,31],Dr (Bc 95 .sub 3 94 .i64 1) 21 [23,24,25,26,27,29,30,31],Dr (Mv 96 11) 22 [23,24,25,26,27,29,30,31],Dr (Bt 97 .sub 3 95 96) 23 [24,25,26,27,29,30,31],Dr (Ix 98 2 91 97) 24 [25,26,27,29,30,31],Db (Ld 99 98) 25 98 [26,27,29,30,31],⟨Ro 100 (.buildSlice 2 1 z2 [(0,2,(T 99))]),26,.new false,[27,29,30,31],false,true⟩,⟨⟨some 87,none,.op false (.cE (.call ⟨.builtin .append,#[T 75,T 86],#[22,22]⟩))⟩,13,.app [T 75,T 86],[27,28,29,30,31],false,false⟩,Dr (Fa 102 0 8) 28 [29,30,31],⟨⟨some 101,none,.op false (.cE (.call ⟨.builtin .append,#[T 89,T 100],#[23,23]⟩))⟩,27,.app [T 89,T 100],[29,30,31],false,false⟩,⟨Sr 1 102 87,29,.dh (T 102),[30,31],true,true⟩,Dr (Fa 103 1 8) 30 [31],⟨Sr 1 103 101,31,.dh (T 103),[],true,true⟩])
 (.seq (.draw (some [1,2,3,7,8,9,10,11]) 24 [Dr (Fa 104 0 9) 0 [1,10,19,20,21,22,23],Db (Ro 105 (.aF .slice (T 104))) 1 104 [10,19,20,21,22,23],⟨Ro 106 (.buildSlice 1 0 [] []),2,.new false,[8,9,10,19,20,21,22,23],false,true⟩,Dr (Fa 107 0 3) 3 [4,6,7,8,9,10,19,20,21,22,23],Db (Ro 108 (.aF .slice (T 107))) 4 107 [6,7,8,9,10,19,20,21,22,23],Dr (Mv 109 11) 5 [6,7,8,9,10,19,20,21,22,23],Dr (Ix 110 1 108 109) 6 [7,8,9,10,19,20,21,22,23],Db (Ro 111 (.aF .slice (T 110))) 7 110 [8,9,10,19,20,21,22,23],Dr (Fa 115 1 9) 11 [12,19,20,21,22,23],Db (Ro 116 (.aF .slice (T 115))) 12 115 [19,20,21,22,23],Dr (Fa 117 1 3) 13 [14,16,17,18,19,21,22,23],Db (Ro 118 (.aF .slice (T 117))) 14 117 [16,17,18,19,21,22,23],Dr (Mv 119 11) 15 [16,17,18,19,21,22,23],Dr (Ix 120 2 118 119) 16 [17,18,19,21,22,23],Db (Ld 121 120) 17 120 [18,19,21,22,23],⟨Ro 122 (.buildSlice 2 1 z2 [(0,2,(T 121))]),18,.new false,[19,21,22,23],false,true⟩,⟨⟨some 112,none,.op false (.cE (.call ⟨.builtin .append,#[T 106,T 111],#[27,27]⟩))⟩,8,.app [T 106,T 111],[9,10,19,20,21,22,23],false,false⟩,⟨Ro 113 (.buildSlice 1 1 [.slice none 0 0] [(0,1,(T 112))]),9,.new false,[10,19,20,21,22,23],false,true⟩,⟨⟨some 114,none,.op false (.cE (.call ⟨.builtin .append,#[T 105,T 113],#[22,22]⟩))⟩,10,.app [T 105,T 113],[19,20,21,22,23],false,false⟩,Dr (Fa 124 0 9) 20 [21,22,23],⟨⟨some 123,none,.op false (.cE (.call ⟨.builtin .append,#[T 116,T 122],#[23,23]⟩))⟩,19,.app [T 116,T 122],[21,22,23],false,false⟩,⟨Sr 1 124 114,21,.dh (T 124),[22,23],true,true⟩,Dr (Fa 125 1 9) 22 [23],⟨Sr 1 125 123,23,.dh (T 125),[],true,true⟩])
 (.seq (Rg [1,2,3,7,8,9,10,11] [Ol 12 (.assign (.const (.slice none 0 0)))])
 (.seq (.seq (Rg [1,2,3,7,8,9,10,11,12] [Fa 126 0 3,Ro 127 (.aF .slice (T 126)),Mv 128 11,Ix 129 1 127 128,Ro 130 (.aF .slice (T 129)),Ro 131 (.kq (T 130)),Bc 132 .sub 3 131 .i64 1,As 13 132])
 (.block 2 (.loop 12 none (some [1,2,3,7,8,9,10,11,12,13]))))
 (.draw (some [1,2,3,7,8,9,10,11,12]) 18 [Dr (Fa 148 0 10) 0 [1,4,13,14,15,16,17],Db (Ro 149 (.aF .slice (T 148))) 1 148 [4,13,14,15,16,17],Dr (Mv 150 12) 2 [3,4,13,14,15,16,17],⟨Ro 151 (.buildSlice 1 1 [.slice none 0 0] [(0,1,(T 150))]),3,.new false,[4,13,14,15,16,17],false,true⟩,Dr (Fa 153 1 10) 5 [6,13,14,15,16,17],Db (Ro 154 (.aF .slice (T 153))) 6 153 [13,14,15,16,17],Dr (Fa 155 1 3) 7 [8,10,11,12,13,15,16,17],Db (Ro 156 (.aF .slice (T 155))) 8 155 [10,11,12,13,15,16,17],Dr (Mv 157 11) 9 [10,11,12,13,15,16,17],Dr (Ix 158 2 156 157) 10 [11,12,13,15,16,17],Db (Ld 159 158) 11 158 [12,13,15,16,17],⟨Ro 160 (.buildSlice 2 1 z2 [(0,2,(T 159))]),12,.new false,[13,15,16,17],false,true⟩,⟨⟨some 152,none,.op false (.cE (.call ⟨.builtin .append,#[T 149,T 151],#[22,22]⟩))⟩,4,.app [T 149,T 151],[13,14,15,16,17],false,false⟩,Dr (Fa 162 0 10) 14 [15,16,17],⟨⟨some 161,none,.op false (.cE (.call ⟨.builtin .append,#[T 154,T 160],#[23,23]⟩))⟩,13,.app [T 154,T 160],[15,16,17],false,false⟩,⟨Sr 1 162 152,15,.dh (T 162),[16,17],true,true⟩,Dr (Fa 163 1 10) 16 [17],⟨Sr 1 163 161,17,.dh (T 163),[],true,true⟩]))))))
 (Rg [1,2,3,7,8,9,10,11] [Mv 72 11,Bc 73 .add 3 72 .i64 1,As 11 73]))⟩),(12,⟨none,some [1,2,3,7,8,9,10,11,12,13],.seq (.seq (Rg [1,2,3,7,8,9,10,11,12,13] [Mv 133 13,Bc 134 .geq 3 133 .i64 0])
 (.cond (T 134) .skip
 (.exit 2 (some [1,2,3,7,8,9,10,11,12]))))
 (.seq (.block 3 (Rg [1,2,3,7,8,9,10,11,12,13] [Mv 137 12,Fa 138 0 3,Ro 139 (.aF .slice (T 138)),Mv 140 11,Ix 141 1 139 140,Ro 142 (.aF .slice (T 141)),Mv 143 13,Ix 144 1 142 143,L1 145 144,Ro 146 (.buildSlice 1 1 [.int .i64 0] [(0,1,(T 145))]),⟨some 147,none,.op false (.cE (.call ⟨.builtin .append,#[T 137,T 146],#[27,27]⟩))⟩,As 12 147]))
 (Rg [1,2,3,7,8,9,10,11,12,13] [Mv 135 13,Bc 136 .sub 3 135 .i64 1,As 13 136]))⟩),(17,⟨some [1,2,3,7,8,9,10,14],some [1,2,3,7,8,9,10,14],.seq (.seq (Rg [1,2,3,7,8,9,10,14] [Mv 164 14,Fa 165 0 3,Ro 166 (.aF .slice (T 165)),Ro 167 (.ta 1 (T 166) (Ci 0)),Ro 168 (.aF .slice (T 167)),Ro 169 (.kq (T 168)),Bt 170 .lss 3 164 169])
 (.cond (T 170) .skip
 (.exit 4 (some [1,2,3,7,8,9,10]))))
 (.seq (.block 5 (.draw (some [1,2,3,7,8,9,10,14]) 19 [Dr (Fa 173 0 9) 0 [1,3,4,6,7,16,17,18],Db (Ro 174 (.aF .slice (T 173))) 1 173 [3,4,6,7,16,17,18],Dr (Mv 175 1) 2 [3,4,6,7,16,17,18],Dr (Ix 176 1 174 175) 3 [4,6,7,16,17,18],Db (Ro 177 (.aF .slice (T 176))) 4 176 [6,7,16,17,18],Dr (Mv 178 14) 5 [6,7,16,17,18],Dr (Ix 179 1 177 178) 6 [7,16,17,18],Db (L1 180 179) 7 179 [16,17,18],Dr (Fa 181 0 3) 8 [9,11,12,14,15,16,17,18],Db (Ro 182 (.aF .slice (T 181))) 9 181 [11,12,14,15,16,17,18],Dr (Mv 183 2) 10 [11,12,14,15,16,17,18],Dr (Ix 184 1 182 183) 11 [12,14,15,16,17,18],Db (Ro 185 (.aF .slice (T 184))) 12 184 [14,15,16,17,18],Dr (Mv 186 14) 13 [14,15,16,17,18],Dr (Ix 187 1 185 186) 14 [15,16,17,18],Db (L1 188 187) 15 187 [16,17,18],Dr (Bt 189 .add 3 180 188) 16 [17,18],Dr (Ix 190 1 177 178) 17 [18],⟨Sr 1 190 189,18,.dh (T 190),[],true,true⟩]))
 (Rg [1,2,3,7,8,9,10,14] [Mv 171 14,Bc 172 .add 3 171 .i64 1,As 14 172]))⟩)],
 []⟩
theorem su: fJ (progU ()) hint live 5 Try.f5=some r5:=by kernel_rfl
end Go.Proofs.Ytdpbiegfljmhmaa
namespace Go.Proofs.Ytdpbiegfljmhmaa
open Go.cY
set_option maxRecDepth 100000
def x8:RX 8 Try.f8:=by constructor;conv=>lhs;cbv
def x12:RX 12 Try.f12:=by constructor;conv=>lhs;cbv
def r13 : k9 :=
⟨.seq (Rg [0] [Bo 1 2 0,Ac 2 0])
 (.seq (.seq (Rg [1] [Fa 6 0 1,Ro 7 (.aF .slice (T 6)),Ro 8 (.kq (T 7)),Bc 9 .gtr 3 8 .i64 4])
 (.cond (T 9) (.seq (Rg [] [Ac 2 4])
 .ret)
 .skip))
 (.seq (.seq (Rg [1] [Ac 3 0])
 (.block 0 (.loop 4 none (some [1,3]))))
 (.seq (.seq (Rg [1] [Fa 24 0 1,Ro 25 (.aF .slice (T 24)),Ro 26 (.kq (T 25)),Bc 27 .eql 3 26 .i64 0,Mv 28 27,Hf 29 28 (.fieldAddr 0 (T 1)),Hf 30 28 (.aF .slice (T 29)),Hf 31 28 (.ta 1 (T 30) (Ci 0)),Hf 32 28 (.aF .slice (T 31)),Hf 33 28 (.kq (T 32)),Gf 34 28 (.binOp .eql 3 (T 33) (Ci 0) 3),Ol 35 (.pick (T 28) (.const (.bool true)) (T 34)),Mv 36 35,Hf 37 36 (.fieldAddr 1 (T 1)),Hf 38 36 (.aF .slice (T 37)),Hf 39 36 (.kq (T 38)),Hf 40 36 (.fieldAddr 0 (T 1)),Hf 41 36 (.aF .slice (T 40)),Hf 42 36 (.kq (T 41)),Gf 43 36 (.binOp .neq 3 (T 39) (T 42) 3),Ol 44 (.pick (T 36) (.const (.bool true)) (T 43))])
 (.cond (T 44) (.seq (Rg [] [Ac 2 8])
 .ret)
 .skip))
 (.seq (.seq (Rg [1] [Ac 4 0])
 (.block 2 (.loop 11 (some [1,4]) (some [1,4]))))
 (.seq (Rg [] [Ac 2 0])
 .ret))))),
 [.tmp 2],
 [(4,⟨none,some [1,3],.seq (.seq (Rg [1,3] [Mv 10 3,Fa 11 0 1,Ro 12 (.aF .slice (T 11)),Ro 13 (.kq (T 12)),Bt 14 .lss 3 10 13])
 (.cond (T 14) .skip
 (.exit 0 (some [1]))))
 (.seq (.block 1 (.seq (Rg [1,3] [Fa 17 0 1,Ro 18 (.aF .slice (T 17)),Mv 19 3,Ix 20 1 18 19,Ro 21 (.aF .slice (T 20)),Ro 22 (.kq (T 21)),Bc 23 .gtr 3 22 .i64 4])
 (.cond (T 23) (.seq (Rg [] [Ac 2 4])
 .ret)
 .skip)))
 (Rg [1,3] [Mv 15 3,Bc 16 .add 3 15 .i64 1,As 3 16]))⟩),(11,⟨some [1,4],some [1,4],.seq (.seq (Rg [1,4] [Mv 45 4,Fa 46 0 1,Ro 47 (.aF .slice (T 46)),Ro 48 (.kq (T 47)),Bt 49 .lss 3 45 48])
 (.cond (T 49) .skip
 (.exit 2 (some []))))
 (.seq (.block 3 (.seq (.seq (.draw (some [1,4]) 30 [Dr (Fa 52 0 1) 0 [1,3,4,5,11,12,13,14,15,16,17,18,19,20,21,22,23,24,25,26,27,28,29],Db (Ro 53 (.aF .slice (T 52))) 1 52 [3,4,5,11,12,13,14,15,16,17,18,19,20,21,22,23,24,25,26,27,28,29],Dr (Mv 54 4) 2 [3,4,5,11,12,13,14,15,16,17,18,19,20,21,22,23,24,25,26,27,28,29],Dr (Ix 55 1 53 54) 3 [4,5,11,12,13,14,15,16,17,18,19,20,21,22,23,24,25,26,27,28,29],Db (Ro 56 (.aF .slice (T 55))) 4 55 [5,11,12,13,14,15,16,17,18,19,20,21,22,23,24,25,26,27,28,29],Dr (Ro 57 (.kq (T 56))) 5 [11,12,13,14,15,16,17,18,19,20,21,22,23,24,25,26,27,28,29],Dr (Fa 58 0 1) 6 [7,8,9,10,11,12,13,14,15,16,17,18,19,20,21,22,23,24,25,26,27,28,29],Db (Ro 59 (.aF .slice (T 58))) 7 58 [8,9,10,11,12,13,14,15,16,17,18,19,20,21,22,23,24,25,26,27,28,29],Dr (Ro 60 (.ta 1 (T 59) (Ci 0))) 8 [9,10,11,12,13,14,15,16,17,18,19,20,21,22,23,24,25,26,27,28,29],Db (Ro 61 (.aF .slice (T 60))) 9 60 [10,11,12,13,14,15,16,17,18,19,20,21,22,23,24,25,26,27,28,29],Dr (Ro 62 (.kq (T 61))) 10 [11,12,13,14,15,16,17,18,19,20,21,22,23,24,25,26,27,28,29],Dr (Bt 63 .neq 3 57 62) 11 [12,13,14,15,16,17,18,19,20,21,22,23,24,25,26,27,28,29],Dr (Mv 64 63) 12 [13,14,15,16,17,18,19,20,21,22,23,24,25,26,27,28,29],⟨Hf 65 64 (.fieldAddr 1 (T 1)),13,.none,[14,16,17,18,19,20,21,22,23,24,25,26,27,28,29],false,true⟩,⟨Hf 66 64 (.aF .slice (T 65)),14,.dh (T 65),[16,17,18,19,20,21,22,23,24,25,26,27,28,29],false,true⟩,⟨Gf 67 64 (.move (T 4)),15,.none,[16,17,18,19,20,21,22,23,24,25,26,27,28,29],false,true⟩,⟨Hf 68 64 (.ta 2 (T 66) (T 67)),16,.none,[17,18,19,20,21,22,23,24,25,26,27,28,29],false,true⟩,⟨Hf 69 64 (.load 2 s2 (T 68)),17,.dh (T 68),[18,19,20,21,22,23,24,25,26,27,28,29],false,true⟩,⟨⟨some 70,some (64,false),.call (.func 32) [T 69] vB⟩,18,.all,[19,20,21,22,23,24,25,26,27,28,29],false,false⟩,⟨Gf 71 64 (.unOp .not 4 (T 70)),19,.none,[20,21,22,23,24,25,26,27,28,29],false,true⟩,Dr (Ol 72 (.pick (T 64) (.const (.bool true)) (T 71))) 20 [21,22,23,24,25,26,27,28,29],Dr (Mv 73 72) 21 [22,23,24,25,26,27,28,29],⟨Hf 74 73 (.fieldAddr 1 (T 1)),22,.none,[23,25,26,27,28,29],false,true⟩,⟨Hf 75 73 (.aF .slice (T 74)),23,.dh (T 74),[25,26,27,28,29],false,true⟩,⟨Gf 76 73 (.move (T 4)),24,.none,[25,26,27,28,29],false,true⟩,⟨Hf 77 73 (.ta 2 (T 75) (T 76)),25,.none,[26,27,28,29],false,true⟩,⟨Hf 78 73 (.fieldAddr 1 (T 77)),26,.none,[27,28,29],false,true⟩,⟨Hf 79 73 (.aF (.int .i64) (T 78)),27,.dh (T 78),[28,29],false,true⟩,⟨Gf 80 73 (.binOp .gtr 2 (T 79) (Ci 60) 2),28,.none,[29],false,true⟩,Dr (Ol 81 (.pick (T 73) (.const (.bool true)) (T 80))) 29 []])
 (.cond (T 81) (.seq (Rg [] [Ac 2 8])
 .ret)
 .skip))
 (.seq (Rg [1,4] [Ac 5 0])
 (.block 4 (.loop 16 none (some [1,4,5]))))))
 (Rg [1,4] [Mv 50 4,Bc 51 .add 3 50 .i64 1,As 4 51]))⟩),(16,⟨none,some [1,4,5],.seq (.seq (Rg [1,4,5] [Mv 82 5,Fa 83 0 1,Ro 84 (.aF .slice (T 83)),Mv 85 4,Ix 86 1 84 85,Ro 87 (.aF .slice (T 86)),Ro 88 (.kq (T 87)),Bt 89 .lss 3 82 88])
 (.cond (T 89) .skip
 (.exit 4 (some [1,4]))))
 (.seq (.block 5 (.seq (Rg [1,4,5] [Fa 92 0 1,Ro 93 (.aF .slice (T 92)),Mv 94 4,Ix 95 1 93 94,Ro 96 (.aF .slice (T 95)),Mv 97 5,Ix 98 1 96 97,L1 99 98,Ol 100 (.binOp .lss 3 (T 99) (.const (.int .i64 (-9))) 3),Mv 101 100,Hf 102 101 (.fieldAddr 0 (T 1)),Hf 103 101 (.aF .slice (T 102)),Gf 104 101 (.move (T 4)),Hf 105 101 (.ta 1 (T 103) (T 104)),Hf 106 101 (.aF .slice (T 105)),Gf 107 101 (.move (T 5)),Hf 108 101 (.ta 1 (T 106) (T 107)),Hf 109 101 (.aF (.int .i64) (T 108)),Gf 110 101 (.binOp .gtr 3 (T 109) (Ci 9) 3),Ol 111 (.pick (T 101) (.const (.bool true)) (T 110))])
 (.cond (T 111) (.seq (Rg [] [Ac 2 8])
 .ret)
 .skip)))
 (Rg [1,4,5] [Mv 90 5,Bc 91 .add 3 90 .i64 1,As 5 91]))⟩)],
 []⟩
theorem na: fJ (progU ()) hint live 13 Try.f13=some r13:=by kernel_rfl
def x14:RX 14 Try.f14:=by constructor;conv=>lhs;cbv
end Go.Proofs.Ytdpbiegfljmhmaa
namespace Go.Proofs.Ytdpbiegfljmhmaa
open Go.cY
set_option maxRecDepth 100000
def x43:RX 43 Try.f43:=by constructor;conv=>lhs;cbv
def x44:RX 44 Try.f44:=by constructor;conv=>lhs;cbv
def x45:RX 45 Try.f45:=by constructor;conv=>lhs;cbv
def x46:RX 46 Try.f46:=by constructor;conv=>lhs;cbv
def x47:RX 47 Try.f47:=by constructor;conv=>lhs;cbv
def x48:RX 48 Try.f48:=by constructor;conv=>lhs;cbv
def r49 : k9 :=
⟨.seq (Rg [0,1,2,3] [Ol 8 (.assign (.const (.slice none 0 0)))])
 (.seq (Rg [0,1,2,3] [Mv 22 0,Ro 23 (.kq (T 22)),As 9 23])
 (.seq (Rg [0,1,2,3,9] [Mv 24 2,Mv 25 3,Bt 26 .mul 3 24 25,As 10 26])
 (.seq (Rg [0,1,2,3,9,10] [Mv 27 9,Ro 28 (.mkSlice 1 [.int .i64 0] (T 27) (T 27)),Ro 29 (.buildSlice 1 1 [.slice none 0 0] [(0,1,(T 28))]),As 11 29])
 (.seq (.seq (Rg [0,1,2,3,9,10,11] [Mv 30 9,Bc 31 .sub 3 30 .i64 1,As 12 31])
 (.block 0 (.loop 5 (some [0,1,2,3,9,10,11,12]) (some [0,1,2,3,9,10,11,12]))))
 (.seq (Rg [11] [Mv 101 11,Ca 102 69 [T 101,.func 70] (some (.mr []))])
 (.seq (Rg [11] [Mv 103 11,As 8 103])
 .ret)))))),
 [.tmp 8],
 [(5,⟨some [0,1,2,3,9,10,11,12],some [0,1,2,3,9,10,11,12],.seq (.seq (Rg [0,1,2,3,9,10,11,12] [Mv 32 12,Bc 33 .geq 3 32 .i64 0])
 (.cond (T 33) .skip
 (.exit 0 (some [11]))))
 (.seq (.block 1 (.seq (.draw (some [0,1,2,3,9,10,11,12]) 13 [Dr (Mv 36 0) 0 [2,3,11,12],Dr (Mv 37 12) 1 [2,3,11,12],Dr (Ix 38 1 36 37) 2 [3,11,12],Db (Ro 39 (.aF .slice (T 38))) 3 38 [11,12],Dr (Mv 40 0) 4 [6,7,9,10,12],Dr (Mv 41 12) 5 [6,7,9,10,12],Dr (Ix 42 1 40 41) 6 [7,9,10,12],Db (Ro 43 (.aF .slice (T 42))) 7 42 [9,10,12],Dr (Mv 44 12) 8 [9,10,12],Dr (Ix 45 1 43 44) 9 [10,12],Db (L1 46 45) 10 45 [12],Dr (As 13 39) 11 [12],Dr (As 14 46) 12 []])
 (.seq (Rg [0,1,2,3,9,10,11,12,13,14] [Mv 47 13,Mv 48 9,Ro 49 (.P7 27 (T 47) (some (T 48)) none none),Mv 50 1,Mv 51 2,Ca 52 62 [T 49,T 50,T 51] vI,Mv 53 3,Bt 54 .mul 3 52 53,As 15 54])
 (.seq (Rg [0,1,2,3,9,10,11,12,13,14,15] [Ol 16 (.assign (.const (.slice none 0 0)))])
 (.seq (.seq (Rg [0,1,2,3,9,10,11,12,13,14,15,16] [Mv 55 11,Ro 56 (.kq (T 55)),Ol 57 (.move (Ci 0))])
 (.block 2 (.loop 11 (some [0,1,2,3,9,10,12,13,14,15,16,55,56,57]) (some [0,1,2,3,9,10,12,13,14,15,16,55,56,57]))))
 (Rg [0,1,2,3,9,10,12,16] [Mv 100 16,As 11 100]))))))
 (Rg [0,1,2,3,9,10,11,12] [Mv 34 12,Bc 35 .sub 3 34 .i64 1,As 12 35]))⟩),(11,⟨some [0,1,2,3,9,10,12,13,14,15,16,55,56,57],some [0,1,2,3,9,10,12,13,14,15,16,55,56,57],.seq (Rg [0,1,2,3,9,10,12,13,14,15,16,55,56,57] [Bt 58 .lss 3 57 56])
 (.seq (.cond (T 58) .skip
 (.exit 2 (some [0,1,2,3,9,10,12,16])))
 (.seq (.block 3 (.seq (Rg [0,1,2,3,9,10,12,13,14,15,16,55,56,57] [Ix 59 1 55 57,Ro 60 (.aF .slice (T 59)),As 18 60])
 (.seq (Rg [0,1,2,3,9,10,12,13,14,15,16,18,55,56,57] [Mv 61 15,Mv 62 13,Mv 63 9,Ro 64 (.P7 27 (T 62) none (some (T 63)) none),Mv 65 18,Mv 66 10,Ca 67 62 [T 64,T 65,T 66] vI,Bt 68 .sub 3 61 67,As 19 68])
 (.seq (Rg [0,1,2,3,9,10,12,13,14,15,16,18,19,55,56,57] [Mv 69 19,Mv 70 10,Mv 71 19,Mv 72 10,Ca 73 68 [T 71,T 72] vI,Bt 74 .mul 3 70 73,Bt 75 .sub 3 69 74,As 19 75])
 (.seq (Rg [0,1,2,3,9,10,12,13,14,15,16,18,19,55,56,57] [Mv 76 14,Ol 77 (.move (Ci 0))])
 (.block 4 (.loop 16 (some [0,1,2,3,9,10,12,13,14,15,16,18,19,55,56,57,76,77]) (some [0,1,2,3,9,10,12,13,14,15,16,18,19,55,56,57,76,77]))))))))
 (Rg [0,1,2,3,9,10,12,13,14,15,16,55,56,57] [Bc 99 .add 3 57 .i64 1,Mv 57 99])))⟩),(16,⟨some [0,1,2,3,9,10,12,13,14,15,16,18,19,55,56,57,76,77],some [0,1,2,3,9,10,12,13,14,15,16,18,19,55,56,57,76,77],.seq (Rg [0,1,2,3,9,10,12,13,14,15,16,18,19,55,56,57,76,77] [Bt 78 .lss 3 77 76])
 (.seq (.cond (T 78) .skip
 (.exit 4 (some [0,1,2,3,9,10,12,13,14,15,16,55,56,57])))
 (.seq (.block 5 (.seq (Rg [0,1,2,3,9,10,12,13,14,15,16,18,19,55,56,57,76,77] [Mv 79 77,As 20 79])
 (.seq (Rg [0,1,2,3,9,10,12,13,14,15,16,18,19,20,55,56,57,76,77] [Mv 80 18,Ca 81 57 [T 80] (some (.val (.one .slice))),As 21 81])
 (.seq (.draw (some [0,1,2,3,9,10,12,13,14,15,16,18,19,20,21,55,56,57,76,77]) 13 [Dr (Mv 82 21) 0 [11,12],Dr (Mv 83 12) 1 [11,12],Dr (Mv 84 19) 2 [4,10,11,12],Dr (Mv 85 14) 3 [4,10,11,12],Dr (Bt 86 .quo 3 84 85) 4 [10,11,12],Dr (Mv 87 20) 5 [9,10,11,12],Dr (Mv 88 10) 6 [8,9,10,11,12],Dr (Mv 89 14) 7 [8,9,10,11,12],Dr (Bt 90 .quo 3 88 89) 8 [9,10,11,12],Dr (Bt 91 .mul 3 87 90) 9 [10,11,12],Dr (Bt 92 .add 3 86 91) 10 [11,12],Dr (Ix 93 1 82 83) 11 [12],⟨Sr 1 93 92,12,.dh (T 93),[],true,true⟩])
 (Rg [0,1,2,3,9,10,12,13,14,15,16,18,19,21,55,56,57,76,77] [Mv 94 16,Mv 95 21,Ro 96 (.buildSlice 1 1 [.slice none 0 0] [(0,1,(T 95))]),⟨some 97,none,.op false (.cE (.call ⟨.builtin .append,#[T 94,T 96],#[22,22]⟩))⟩,As 16 97])))))
 (Rg [0,1,2,3,9,10,12,13,14,15,16,18,19,55,56,57,76,77] [Bc 98 .add 3 77 .i64 1,Mv 77 98])))⟩)],
 []⟩
theorem nf: fJ (progU ()) hint live 49 Try.f49=some r49:=by kernel_rfl
def x50:RX 50 Try.f50:=by constructor;conv=>lhs;cbv
def x51:RX 51 Try.f51:=by constructor;conv=>lhs;cbv
def x53:RX 53 Try.f53:=by constructor;conv=>lhs;cbv
def x55:RX 55 Try.f55:=by constructor;conv=>lhs;cbv
def x56:RX 56 Try.f56:=by constructor;conv=>lhs;cbv
def x57:RX 57 Try.f57:=by constructor;conv=>lhs;cbv
end Go.Proofs.Ytdpbiegfljmhmaa
namespace Go.Proofs.Ytdpbiegfljmhmaa
open Go.cY
set_option maxRecDepth 100000
def x60:RX 60 Try.f60:=by constructor;conv=>lhs;cbv
def x61:RX 61 Try.f61:=by constructor;conv=>lhs;cbv
def x62:RX 62 Try.f62:=by constructor;conv=>lhs;cbv
def x63:RX 63 Try.f63:=by constructor;conv=>lhs;cbv
def x64:RX 64 Try.f64:=by constructor;conv=>lhs;cbv
def x65:RX 65 Try.f65:=by constructor;conv=>lhs;cbv
def x66:RX 66 Try.f66:=by constructor;conv=>lhs;cbv
def x67:RX 67 Try.f67:=by constructor;conv=>lhs;cbv
def x68:RX 68 Try.f68:=by constructor;conv=>lhs;cbv
def x69:RX 69 Try.f69:=by constructor;conv=>lhs;cbv
def x70:RX 70 Try.f70:=by constructor;conv=>lhs;cbv
def x71:RX 71 Try.f71:=by constructor;conv=>lhs;cbv
def x72:RX 72 Try.f72:=by constructor;conv=>lhs;cbv
def x73:RX 73 Try.f73:=by constructor;conv=>lhs;cbv
def x74:RX 74 Try.f74:=by constructor;conv=>lhs;cbv
def x75:RX 75 Try.f75:=by constructor;conv=>lhs;cbv
def x76:RX 76 Try.f76:=by constructor;conv=>lhs;cbv
def x78:RX 78 Try.f78:=by constructor;conv=>lhs;cbv
def x79:RX 79 Try.f79:=by constructor;conv=>lhs;cbv
def x80:RX 80 Try.f80:=by constructor;conv=>lhs;cbv
end Go.Proofs.Ytdpbiegfljmhmaa
namespace Go.Proofs.Ytdpbiegfljmhmaa
open Go.cY
set_option maxRecDepth 100000
def r81 : k9 :=
⟨.seq (Rg [0] [Ac 2 0])
 (.seq (Rg [0] [Mv 11 0,Ol 12 (.makeFunc (.func 95) #[T 11] #[]),Mv 13 0,Ol 14 (.makeFunc (.func 96) #[T 13] #[]),As 3 12,As 4 14])
 (.seq (Rg [0,3,4] [Ac 5 1])
 (.seq (.seq (Rg [0,3,4,5] [Mv 15 0,Ol 16 (.nilCheck (T 15)),Fa 17 0 16,L1 18 17,Ol 19 (.move (Ci 0))])
 (.block 0 (.loop 4 (some [0,3,4,5,18,19]) (some [0,3,4,5,18,19]))))
 (.seq (Rg [5] [Mv 118 5,Mv 119 5,Ol 120 (.unOp .neg 3 (T 119)),⟨some 121,none,.op false (.cE (.call ⟨.builtin .max,#[T 118,T 120],#[3,3]⟩))⟩,As 2 121])
 .ret)))),
 [.tmp 2],
 [(4,⟨some [0,3,4,5,18,19],some [0,3,4,5,18,19],.seq (Rg [0,3,4,5,18,19] [Bt 20 .lss 3 19 18])
 (.seq (.cond (T 20) .skip
 (.exit 0 (some [5])))
 (.seq (.block 1 (.seq (Rg [0,3,4,5,18,19] [Mv 21 19,As 6 21])
 (.seq (Rg [0,3,4,5,6,18,19] [Mv 23 0,Mv 24 6,Ca 25 97 [T 23,T 24] (some (.mr [.agg s2,.one .bool])),Mv 22 25,Ex 26 22 0,Ex 27 22 1,Ro 7 (.new 2 z2),Sr 2 7 26,As 8 27])
 (.seq (.seq (Rg [0,3,4,5,6,7,8,18,19] [Mv 28 8,Ol 29 (.unOp .not 4 (T 28))])
 (.cond (T 29) (.seq (Rg [] [Ac 2 0])
 .ret)
 .skip))
 (.seq (.seq (Rg [0,3,4,5,6,7,18,19] [Ld 30 7,Mv 31 6,Mv 32 6,Ro 33 (.build z2 [(0,1,(T 31)),(1,1,(T 32))]),Bt 34 .neq 126 30 33])
 (.cond (T 34) (.seq (Rg [0,3,4,5,6,7,18,19] [Mv 35 3,Mv 36 6,Ro 37 (.wW 2 1 (T 7) (Ci 0)),L1 38 37,⟨some 39,none,.call (T 35) [T 36,T 38] (some (.mr []))⟩])
 (Rg [0,3,4,5,6,7,18,19] [Mv 40 4,Mv 41 6,Ro 42 (.wW 2 1 (T 7) (Ci 1)),L1 43 42,⟨some 44,none,.call (T 40) [T 41,T 43] (some (.mr []))⟩]))
 .skip))
 (.seq (.seq (Rg [0,3,4,5,6,18,19] [Mv 45 6,Bc 46 .add 3 45 .i64 1,As 9 46])
 (.block 2 (.loop 13 (some [0,3,4,5,6,9,18,19]) (some [0,3,4,5,6,9,18,19]))))
 (Rg [0,3,4,6,18,19] [Mv 109 0,Mv 110 6,Mv 111 6,Ol 112 (.nilCheck (T 109)),Fa 113 1 112,Ro 114 (.wW 4 4 (T 113) (T 110)),Ro 115 (.wW 4 1 (T 114) (T 111)),L1 116 115,As 5 116])))))))
 (Rg [0,3,4,5,18,19] [Bc 117 .add 3 19 .i64 1,Mv 19 117])))⟩),(13,⟨some [0,3,4,5,6,9,18,19],some [0,3,4,5,6,9,18,19],.seq (.seq (Rg [0,3,4,5,6,9,18,19] [Mv 47 9,Mv 48 0,Ol 49 (.nilCheck (T 48)),Fa 50 0 49,L1 51 50,Bt 52 .lss 3 47 51])
 (.cond (T 52) .skip
 (.exit 2 (some [0,3,4,6,18,19]))))
 (.seq (.block 3 (.seq (Rg [0,3,4,5,6,9,18,19] [Mv 55 6,Bc 56 .add 3 55 .i64 1,As 10 56])
 (.block 4 (.loop 16 (some [0,3,4,5,6,9,10,18,19]) (some [0,3,4,5,6,9,10,18,19])))))
 (Rg [0,3,4,5,6,9,18,19] [Mv 53 9,Bc 54 .add 3 53 .i64 1,As 9 54]))⟩),(16,⟨some [0,3,4,5,6,9,10,18,19],some [0,3,4,5,6,9,10,18,19],.seq (.seq (Rg [0,3,4,5,6,9,10,18,19] [Mv 57 10,Mv 58 0,Ol 59 (.nilCheck (T 58)),Fa 60 0 59,L1 61 60,Bt 62 .lss 3 57 61])
 (.cond (T 62) .skip
 (.exit 4 (some [0,3,4,5,6,9,18,19]))))
 (.seq (.block 5 (.draw (some [0,3,4,5,6,9,10,18,19]) 45 [Dr (Mv 65 0) 0 [40,41,42,43,44],Dr (Mv 66 9) 1 [42,43,44],Dr (Mv 67 10) 2 [43,44],Dr (Mv 68 0) 3 [6,7,8,9,10,19,37,39,43,44],Dr (Mv 69 6) 4 [8,9,10,19,37,39,43,44],Dr (Mv 70 6) 5 [9,10,19,37,39,43,44],Dr (Ol 71 (.nilCheck (T 68))) 6 [7,8,9,10,19,37,39,43,44],Dr (Fa 72 1 71) 7 [8,9,10,19,37,39,43,44],Dr (Ro 73 (.wW 4 4 (T 72) (T 69))) 8 [9,10,19,37,39,43,44],Dr (Ro 74 (.wW 4 1 (T 73) (T 70))) 9 [10,19,37,39,43,44],Db (L1 75 74) 10 74 [19,37,39,43,44],Dr (Mv 76 0) 11 [14,15,16,17,18,19,37,39,43,44],Dr (Mv 77 9) 12 [16,17,18,19,37,39,43,44],Dr (Mv 78 10) 13 [17,18,19,37,39,43,44],Dr (Ol 79 (.nilCheck (T 76))) 14 [15,16,17,18,19,37,39,43,44],Dr (Fa 80 1 79) 15 [16,17,18,19,37,39,43,44],Dr (Ro 81 (.wW 4 4 (T 80) (T 77))) 16 [17,18,19,37,39,43,44],Dr (Ro 82 (.wW 4 1 (T 81) (T 78))) 17 [18,19,37,39,43,44],Db (L1 83 82) 18 82 [19,37,39,43,44],Dr (Bt 84 .mul 3 75 83) 19 [37,39,43,44],Dr (Mv 85 0) 20 [23,24,25,26,27,36,37,39,43,44],Dr (Mv 86 9) 21 [25,26,27,36,37,39,43,44],Dr (Mv 87 6) 22 [26,27,36,37,39,43,44],Dr (Ol 88 (.nilCheck (T 85))) 23 [24,25,26,27,36,37,39,43,44],Dr (Fa 89 1 88) 24 [25,26,27,36,37,39,43,44],Dr (Ro 90 (.wW 4 4 (T 89) (T 86))) 25 [26,27,36,37,39,43,44],Dr (Ro 91 (.wW 4 1 (T 90) (T 87))) 26 [27,36,37,39,43,44],Db (L1 92 91) 27 91 [36,37,39,43,44],Dr (Mv 93 0) 28 [31,32,33,34,35,36,37,39,43,44],Dr (Mv 94 6) 29 [33,34,35,36,37,39,43,44],Dr (Mv 95 10) 30 [34,35,36,37,39,43,44],Dr (Ol 96 (.nilCheck (T 93))) 31 [32,33,34,35,36,37,39,43,44],Dr (Fa 97 1 96) 32 [33,34,35,36,37,39,43,44],Dr (Ro 98 (.wW 4 4 (T 97) (T 94))) 33 [34,35,36,37,39,43,44],Dr (Ro 99 (.wW 4 1 (T 98) (T 95))) 34 [35,36,37,39,43,44],Db (L1 100 99) 35 99 [36,37,39,43,44],Dr (Bt 101 .mul 3 92 100) 36 [37,39,43,44],Dr (Bt 102 .sub 3 84 101) 37 [39,43,44],Dr (Mv 103 5) 38 [39,43,44],Dr (Bt 104 .quo 3 102 103) 39 [43,44],Dr (Ol 105 (.nilCheck (T 65))) 40 [41,42,43,44],Dr (Fa 106 1 105) 41 [42,43,44],Dr (Ro 107 (.wW 4 4 (T 106) (T 66))) 42 [43,44],Dr (Ro 108 (.wW 4 1 (T 107) (T 67))) 43 [44],⟨Sr 1 108 104,44,.dh (T 108),[],true,true⟩]))
 (Rg [0,3,4,5,6,9,10,18,19] [Mv 63 10,Bc 64 .add 3 63 .i64 1,As 10 64]))⟩)],
 []⟩
theorem oJ: fJ (progU ()) hint live 81 Try.f81=some r81:=by kernel_rfl
def r85 : k9 :=
⟨.seq (Rg [0,1] [Mv 8 0,Ol 9 (.makeFunc (.func 98) #[T 8] #[]),As 4 9])
 (.seq (.block 0 (.loop 1 (some [0,1,4]) (some [0,1,4])))
 (.seq (Rg [0,4] [Mv 127 0,Ol 128 (.nilCheck (T 127)),Fa 129 0 128,Ro 130 (.aF .slice (T 129)),Ro 131 (.kq (T 130)),Bc 132 .sub 3 131 .i64 1,As 7 132])
 (.block 4 (.loop 17 none (some [0,4,7]))))),
 [],
 [(1,⟨some [0,1,4],some [0,1,4],.block 1 (.seq (Rg [0,1,4] [Mv 10 4,Mv 11 1,⟨some 12,none,.call (T 10) [T 11] (some (.mr []))⟩])
 (.seq (Rg [0,1,4] [Mv 13 1,Ca 14 56 [T 13] vI,As 5 14])
 (.seq (.seq (Rg [0,1,4,5] [Mv 15 5,Mv 16 1,Ro 17 (.kq (T 16)),Bt 18 .eql 3 15 17])
 (.cond (T 18) .ret
 .skip))
 (.seq (Rg [0,1,4,5] [Ac 6 0])
 (.seq (.block 2 (.loop 5 none (some [0,1,4,5,6])))
 (.seq (.seq (Rg [0,1,4,5,6] [Mv 40 6,Mv 41 0,Ol 42 (.nilCheck (T 41)),Fa 43 0 42,Ro 44 (.aF .slice (T 43)),Ro 45 (.kq (T 44)),Bt 46 .eql 3 40 45,Mv 47 46,Gf 48 47 (.move (T 0)),Gf 49 47 (.nilCheck (T 48)),Hf 50 47 (.fieldAddr 0 (T 49)),Hf 51 47 (.aF .slice (T 50)),Gf 52 47 (.move (T 6)),Hf 53 47 (.ta 1 (T 51) (T 52)),Hf 54 47 (.aF .slice (T 53)),⟨some 55,some (47,false),.call (.func 56) [T 54] vI⟩,Gf 56 47 (.move (T 5)),Gf 57 47 (.binOp .gtr 3 (T 55) (T 56) 3),Ol 58 (.pick (T 47) (.const (.bool true)) (T 57))])
 (.cond (T 58) (.seq (.seq (Rg [0,1,4,5,6] [Mv 59 1,Mv 60 5,Ix 61 1 59 60,L1 62 61,Bc 63 .lss 3 62 .i64 0])
 (.cond (T 63) (.seq (Rg [0,1,4,6] [Mv 64 1,Mv 65 1,Ca 66 99 [T 64,T 65,.const (.int .i64 2)] (some (.mr []))])
 (Rg [0,1,4,6] [Mv 67 4,Mv 68 1,⟨some 69,none,.call (T 67) [T 68] (some (.mr []))⟩]))
 .skip))
 (.seq (Rg [0,1,4,6] [Mv 70 0,Mv 71 0,Ol 72 (.nilCheck (T 71)),Fa 73 0 72,Ro 74 (.aF .slice (T 73)),Mv 75 6,Mv 76 1,Ro 77 (.buildSlice 1 1 [.slice none 0 0] [(0,1,(T 76))]),Ca 78 100 [T 74,T 75,T 77] (some (.val (.one .slice))),Ol 79 (.nilCheck (T 70)),Fa 80 0 79,Sr 1 80 78])
 (.exit 0 (some [0,4]))))
 .skip))
 (.seq (.draw (some [0,1,4,5,6]) 24 [Dr (Mv 81 1) 0 [23],Dr (Mv 82 0) 1 [2,3,4,6,7,23],Dr (Ol 83 (.nilCheck (T 82))) 2 [3,4,6,7,23],Dr (Fa 84 0 83) 3 [4,6,7,23],Db (Ro 85 (.aF .slice (T 84))) 4 84 [6,7,23],Dr (Mv 86 6) 5 [6,7,23],Dr (Ix 87 1 85 86) 6 [7,23],Db (Ro 88 (.aF .slice (T 87))) 7 87 [23],Dr (Mv 89 1) 8 [10,11,22,23],Dr (Mv 90 5) 9 [10,11,22,23],Dr (Ix 91 1 89 90) 10 [11,22,23],Db (L1 92 91) 11 91 [22,23],Dr (Mv 93 0) 12 [13,14,15,17,18,20,21,22,23],Dr (Ol 94 (.nilCheck (T 93))) 13 [14,15,17,18,20,21,22,23],Dr (Fa 95 0 94) 14 [15,17,18,20,21,22,23],Db (Ro 96 (.aF .slice (T 95))) 15 95 [17,18,20,21,22,23],Dr (Mv 97 6) 16 [17,18,20,21,22,23],Dr (Ix 98 1 96 97) 17 [18,20,21,22,23],Db (Ro 99 (.aF .slice (T 98))) 18 98 [20,21,22,23],Dr (Mv 100 5) 19 [20,21,22,23],Dr (Ix 101 1 99 100) 20 [21,22,23],Db (L1 102 101) 21 101 [22,23],⟨Ca 103 68 [T 92,T 102] vI,22,.all,[23],false,false⟩,⟨Ca 104 99 [T 81,T 88,T 103] (some (.mr [])),23,.all,[],false,false⟩])
 (.seq (Rg [0,1,4,5,6] [Mv 105 1,Mv 106 5,Ix 107 1 105 106,L1 108 107,Bc 109 .neq 3 108 .i64 0])
 (.cond (T 109) (.seq (Rg [0,1,4,6] [Mv 110 4,Mv 111 1,⟨some 112,none,.call (T 110) [T 111] (some (.mr []))⟩])
 (.draw (some [0,1,4,6]) 16 [Dr (Mv 113 0) 0 [1,2,3,14,15],Dr (Ol 114 (.nilCheck (T 113))) 1 [2,3,14,15],Dr (Fa 115 0 114) 2 [3,14,15],Db (Ro 116 (.aF .slice (T 115))) 3 115 [14,15],Dr (Mv 117 6) 4 [14,15],Dr (Mv 118 0) 5 [6,7,8,10,11,13,14,15],Dr (Ol 119 (.nilCheck (T 118))) 6 [7,8,10,11,13,14,15],Dr (Fa 120 0 119) 7 [8,10,11,13,14,15],Db (Ro 121 (.aF .slice (T 120))) 8 120 [10,11,13,14,15],Dr (Mv 122 6) 9 [10,11,13,14,15],Dr (Ix 123 1 121 122) 10 [11,13,14,15],Db (Ro 124 (.aF .slice (T 123))) 11 123 [13,14,15],Dr (Mv 125 1) 12 [13,14,15],Dr (As 1 124) 13 [14,15],Dr (Ix 126 1 116 117) 14 [15],⟨Sr 1 126 125,15,.dh (T 126),[],true,true⟩]))
 .skip)))))))))⟩),(5,⟨none,some [0,1,4,5,6],.seq (.seq (Rg [0,1,4,5,6] [Mv 19 6,Mv 20 0,Ol 21 (.nilCheck (T 20)),Fa 22 0 21,Ro 23 (.aF .slice (T 22)),Ro 24 (.kq (T 23)),Bt 25 .lss 3 19 24,Mv 26 25,Gt 27 26 (.move (T 0)),Gt 28 26 (.nilCheck (T 27)),Ht 29 26 (.fieldAddr 0 (T 28)),Ht 30 26 (.aF .slice (T 29)),Gt 31 26 (.move (T 6)),Ht 32 26 (.ta 1 (T 30) (T 31)),Ht 33 26 (.aF .slice (T 32)),⟨some 34,some (26,true),.call (.func 56) [T 33] vI⟩,Gt 35 26 (.move (T 5)),Gt 36 26 (.binOp .lss 3 (T 34) (T 35) 3),Ol 37 (.pick (T 26) (T 36) (.const (.bool false)))])
 (.cond (T 37) .skip
 (.exit 2 (some [0,1,4,5,6]))))
 (.block 3 (Rg [0,1,4,5,6] [Mv 38 6,Bc 39 .add 3 38 .i64 1,As 6 39]))⟩),(17,⟨none,some [0,4,7],.seq (.seq (Rg [0,4,7] [Mv 133 7,Bc 134 .geq 3 133 .i64 0])
 (.cond (T 134) .skip
 (.exit 4 (some []))))
 (.seq (.block 5 (Rg [0,4,7] [Mv 137 4,Mv 138 0,Ol 139 (.nilCheck (T 138)),Fa 140 0 139,Ro 141 (.aF .slice (T 140)),Mv 142 7,Ix 143 1 141 142,Ro 144 (.aF .slice (T 143)),⟨some 145,none,.call (T 137) [T 144] (some (.mr []))⟩]))
 (Rg [0,4,7] [Mv 135 7,Bc 136 .sub 3 135 .i64 1,As 7 136]))⟩)],
 []⟩
theorem vi: fJ (progU ()) hint live 85 Try.f85=some r85:=by kernel_rfl
def r86 : k9 :=
⟨.seq (Rg [0,1,2,3,4] [Ol 10 (.assign (.const (.bool true)))])
 (.seq (Rg [0,1,2,3,4,10] [Ol 11 (.assign (.const (.bool true)))])
 (.block 0 (.loop 2 (some [0,1,2,3,4,10,11]) (some [0,1,2,3,4,10,11])))),
 [],
 [(2,⟨some [0,1,2,3,4,10,11],some [0,1,2,3,4,10,11],.block 1 (.seq (Rg [0,1,2,3,4,10,11] [Mv 21 2,Mv 22 1,Bt 23 .sub 3 21 22,As 12 23])
 (.seq (.seq (Rg [0,1,2,3,4,10,11,12] [Mv 24 12,Bc 25 .leq 3 24 .i64 12])
 (.cond (T 25) (.seq (Rg [0,1,2,4] [Mv 26 0,Mv 27 1,Mv 28 2,Mv 29 4,Ca 30 101 [T 26,T 27,T 28,T 29] (some (.mr []))])
 .ret)
 .skip))
 (.seq (.seq (Rg [0,1,2,3,4,10,11,12] [Mv 31 3,Bc 32 .eql 3 31 .i64 0])
 (.cond (T 32) (.seq (Rg [0,1,2,4] [Mv 33 0,Mv 34 1,Mv 35 2,Mv 36 4,Ca 37 102 [T 33,T 34,T 35,T 36] (some (.mr []))])
 .ret)
 .skip))
 (.seq (.seq (Rg [0,1,2,3,4,10,11,12] [Mv 38 10,Ol 39 (.unOp .not 4 (T 38))])
 (.cond (T 39) (.seq (Rg [0,1,2,3,4,10,11,12] [Mv 40 0,Mv 41 1,Mv 42 2,Mv 43 4,Ca 44 103 [T 40,T 41,T 42,T 43] (some (.mr []))])
 (Rg [0,1,2,3,4,10,11,12] [Mv 45 3,Bc 46 .sub 3 45 .i64 1,As 3 46]))
 .skip))
 (.seq (Rg [0,1,2,3,4,10,11,12] [Mv 48 0,Mv 49 1,Mv 50 2,Mv 51 4,Ca 52 104 [T 48,T 49,T 50,T 51] (some (.mr [.one (.int .i64),.one (.int .i64)])),Mv 47 52,Ex 53 47 0,Ex 54 47 1,As 13 53,As 14 54])
 (.seq (.seq (Rg [0,1,2,3,4,10,11,12,13,14] [Mv 55 14,Bc 56 .eql 133 55 .i64 2])
 (.cond (T 56) (.seq (Rg [0,1,2,3,4,10,11,12,13] [Mv 57 0,Mv 58 1,Mv 59 2,Mv 60 4,Ca 61 105 [T 57,T 58,T 59,T 60] (some (.mr []))])
 (.seq (Rg [0,1,2,3,4,10,11,12,13] [Mv 62 2,Bc 63 .sub 3 62 .i64 1,Mv 64 13,Mv 65 1,Bt 66 .sub 3 64 65,Bt 67 .sub 3 63 66,As 13 67])
 (Rg [0,1,2,3,4,10,11,12,13] [Ac 14 1])))
 .skip))
 (.seq (.seq (Rg [0,1,2,3,4,10,11,12,13,14] [Mv 68 10,Mv 69 68,Gt 70 69 (.move (T 11)),Ol 71 (.pick (T 69) (T 70) (.const (.bool false))),Mv 72 71,Gt 73 72 (.move (T 14)),Gt 74 72 (.binOp .eql 133 (T 73) (Ci 1) 133),Ol 75 (.pick (T 72) (T 74) (.const (.bool false)))])
 (.cond (T 75) (.seq (Rg [0,1,2,3,4,10,11,12,13] [Mv 76 0,Mv 77 1,Mv 78 2,Mv 79 4,Ca 80 106 [T 76,T 77,T 78,T 79] vB])
 (.cond (T 80) .ret
 .skip))
 .skip))
 (.seq (.seq (.draw (some [0,1,2,3,4,10,11,12,13]) 17 [Dr (Mv 81 1) 0 [1,2,3,4,5,6,7,8,9,10,11,12,13,14,15,16],Dr (Bc 82 .gtr 3 81 .i64 0) 1 [2,3,4,5,6,7,8,9,10,11,12,13,14,15,16],Dr (Mv 83 82) 2 [3,4,5,6,7,8,9,10,11,12,13,14,15,16],⟨Gt 84 83 (.move (T 4)),3,.none,[13,14,15,16],false,true⟩,⟨Gt 85 83 (.move (T 0)),4,.none,[7,8,13,14,15,16],false,true⟩,⟨Gt 86 83 (.move (T 1)),5,.none,[6,7,8,13,14,15,16],false,true⟩,⟨Gt 87 83 (.binOp .sub 3 (T 86) (Ci 1) 3),6,.none,[7,8,13,14,15,16],false,true⟩,⟨Ht 88 83 (.ta 1 (T 85) (T 87)),7,.none,[8,13,14,15,16],false,true⟩,⟨Ht 89 83 (.aF .slice (T 88)),8,.dh (T 88),[13,14,15,16],false,true⟩,⟨Gt 90 83 (.move (T 0)),9,.none,[11,12,13,14,15,16],false,true⟩,⟨Gt 91 83 (.move (T 13)),10,.none,[11,12,13,14,15,16],false,true⟩,⟨Ht 92 83 (.ta 1 (T 90) (T 91)),11,.none,[12,13,14,15,16],false,true⟩,⟨Ht 93 83 (.aF .slice (T 92)),12,.dh (T 92),[13,14,15,16],false,true⟩,⟨⟨some 94,some (83,true),.call (T 84) [T 89,T 93] vI⟩,13,.all,[14,15,16],false,false⟩,⟨Gt 95 83 (.binOp .lss 3 (T 94) (Ci 0) 3),14,.none,[15,16],false,true⟩,⟨Gt 96 83 (.unOp .not 4 (T 95)),15,.none,[16],false,true⟩,Dr (Ol 97 (.pick (T 83) (T 96) (.const (.bool false)))) 16 []])
 (.cond (T 97) (.seq (Rg [0,1,2,3,4,10,11,13] [Mv 98 0,Mv 99 1,Mv 100 2,Mv 101 13,Mv 102 4,Ca 103 107 [T 98,T 99,T 100,T 101,T 102] vI,As 15 103])
 (.seq (Rg [0,2,3,4,10,11,15] [Mv 104 15,As 1 104])
 (.exit 1 (some [0,1,2,3,4,10,11]))))
 .skip))
 (.seq (Rg [0,1,2,3,4,12,13] [Mv 106 0,Mv 107 1,Mv 108 2,Mv 109 13,Mv 110 4,Ca 111 108 [T 106,T 107,T 108,T 109,T 110] (some (.mr [.one (.int .i64),.one .bool])),Mv 105 111,Ex 112 105 0,Ex 113 105 1,As 16 112,As 17 113])
 (.seq (Rg [0,1,2,3,4,12,16,17] [Mv 114 17,As 11 114])
 (.seq (Rg [0,1,2,3,4,11,12,16] [Mv 115 16,Mv 116 1,Bt 117 .sub 3 115 116,Mv 118 2,Mv 119 16,Bt 120 .sub 3 118 119,As 18 117,As 19 120])
 (.seq (Rg [0,1,2,3,4,11,12,16,18,19] [Mv 121 12,Bc 122 .quo 3 121 .i64 8,As 20 122])
 (.seq (Rg [0,1,2,3,4,11,16,18,19,20] [Mv 123 18,Mv 124 19,Bt 125 .lss 3 123 124])
 (.cond (T 125) (.seq (Rg [0,1,2,3,4,11,16,18,20] [Mv 126 18,Mv 127 20,Bt 128 .geq 3 126 127,As 10 128])
 (.seq (Rg [0,1,2,3,4,10,11,16] [Mv 129 0,Mv 130 1,Mv 131 16,Mv 132 3,Mv 133 4,Ca 134 86 [T 129,T 130,T 131,T 132,T 133] (some (.mr []))])
 (Rg [0,2,3,4,10,11,16] [Mv 135 16,Bc 136 .add 3 135 .i64 1,As 1 136])))
 (.seq (Rg [0,1,2,3,4,11,16,19,20] [Mv 137 19,Mv 138 20,Bt 139 .geq 3 137 138,As 10 139])
 (.seq (Rg [0,1,2,3,4,10,11,16] [Mv 140 0,Mv 141 16,Bc 142 .add 3 141 .i64 1,Mv 143 2,Mv 144 3,Mv 145 4,Ca 146 86 [T 140,T 142,T 143,T 144,T 145] (some (.mr []))])
 (Rg [0,1,3,4,10,11,16] [Mv 147 16,As 2 147])))))))))))))))))⟩)],
 []⟩
theorem GW: fJ (progU ()) hint live 86 Try.f86=some r86:=by kernel_rfl
def x87:RX 87 Try.f87:=by constructor;conv=>lhs;cbv
def x88:RX 88 Try.f88:=by constructor;conv=>lhs;cbv
def x89:RX 89 Try.f89:=by constructor;conv=>lhs;cbv
def r90 : k9 :=
⟨.seq (Rg [0,1] [Bo 2 2 0,Bo 3 2 1,Nw 4 2 z2,Ac 5 0])
 (.seq (.draw (some [2,3,4]) 16 [Dr (Fa 16 0 2) 0 [1,2,5,8,11,12,13,14,15],Db (L1 17 16) 1 16 [2,5,8,11,12,13,14,15],Dr (Fa 19 1 2) 3 [4,5,8,11,12,13,14,15],Db (L1 20 19) 4 19 [5,8,11,12,13,14,15],Dr (Fa 22 0 3) 6 [7,8,11,12,13,14,15],Db (L1 23 22) 7 22 [8,11,12,13,14,15],Dr (Fa 25 1 3) 9 [10,11,12,13,14,15],Db (L1 26 25) 10 25 [11,12,13,14,15],⟨Ca 18 71 [T 17] (some (.val (.one (.int .u64)))),2,.all,[5,8,11,12,13,14,15],false,false⟩,⟨Ca 21 71 [T 20] (some (.val (.one (.int .u64)))),5,.all,[8,11,12,13,14,15],false,false⟩,⟨Ca 24 71 [T 23] (some (.val (.one (.int .u64)))),8,.all,[11,12,13,14,15],false,false⟩,⟨Ca 27 71 [T 26] (some (.val (.one (.int .u64)))),11,.all,[12,13,14,15],false,false⟩,Dr (As 6 18) 12 [13,14,15],Dr (As 7 21) 13 [14,15],Dr (As 8 24) 14 [15],Dr (As 9 27) 15 []])
 (.seq (Rg [2,3,4,6,7,8,9] [Mv 28 6,Mv 29 9,Ca 30 72 [T 28,T 29] (some (.val (.one (.int .u64)))),Mv 31 8,Mv 32 7,Ca 33 72 [T 31,T 32] (some (.val (.one (.int .u64)))),As 10 30,As 11 33])
 (.seq (.draw (some [2,3,4,6,7,8,9,10,11]) 12 [Dr (Mv 35 6) 0 [2,6,7,8,9,10,11],Dr (Mv 36 10) 1 [2,6,7,8,9,10,11],Dr (Bt 37 .quo 69 35 36) 2 [6,7,8,9,10,11],Dr (Mv 38 8) 3 [5,6,7,8,9,10,11],Dr (Mv 39 11) 4 [5,6,7,8,9,10,11],Dr (Bt 40 .quo 69 38 39) 5 [6,7,8,9,10,11],⟨Ca 41 112 [T 37,T 40] (some (.mr [.one (.int .u64),.one (.int .u64)])),6,.all,[7,8,9,10,11],false,false⟩,Dr (Mv 34 41) 7 [8,9,10,11],Dr (Ex 42 34 0) 8 [10,11],Dr (Ex 43 34 1) 9 [11],Dr (As 12 42) 10 [11],Dr (As 13 43) 11 []])
 (.seq (.draw (some [2,3,4,7,9,10,11,12,13]) 12 [Dr (Mv 45 7) 0 [2,6,7,8,9,10,11],Dr (Mv 46 11) 1 [2,6,7,8,9,10,11],Dr (Bt 47 .quo 69 45 46) 2 [6,7,8,9,10,11],Dr (Mv 48 9) 3 [5,6,7,8,9,10,11],Dr (Mv 49 10) 4 [5,6,7,8,9,10,11],Dr (Bt 50 .quo 69 48 49) 5 [6,7,8,9,10,11],⟨Ca 51 112 [T 47,T 50] (some (.mr [.one (.int .u64),.one (.int .u64)])),6,.all,[7,8,9,10,11],false,false⟩,Dr (Mv 44 51) 7 [8,9,10,11],Dr (Ex 52 44 0) 8 [10,11],Dr (Ex 53 44 1) 9 [11],Dr (As 14 52) 10 [11],Dr (As 15 53) 11 []])
 (.seq (.seq (Rg [2,3,4,12,13,14,15] [Mv 54 12,Bc 55 .neq 69 54 .u64 0,Mv 56 55,Gf 57 56 (.move (T 14)),Gf 58 56 (.binOp .neq 69 (T 57) (.const (.int .u64 0)) 69),Ol 59 (.pick (T 56) (.const (.bool true)) (T 58))])
 (.cond (T 59) (.seq (Rg [4] [Ro 60 (.build z2 []),Sr 2 4 60,Ac 5 16])
 .ret)
 .skip))
 (.seq (Rg [2,3,4,13,15] [Fa 61 0 2,L1 62 61,Bc 63 .lss 2 62 .i64 0,Fa 64 0 3,L1 65 64,Bc 66 .lss 2 65 .i64 0,Bt 67 .neq 4 63 66,Mv 68 13,Mv 69 15,Ca 70 73 [T 67,T 68,T 69] (some (.mr [.agg s2,.one (.int .i64)])),Ex 71 70 0,Ex 72 70 1,Sr 2 4 71,As 5 72])
 .ret)))))),
 [.agg 4 2 [.int .i64,.int .i64],.tmp 5],
 [],
 []⟩
theorem TF: fJ (progU ()) hint live 90 Try.f90=some r90:=by kernel_rfl
def r91 : k9 :=
⟨.seq (Rg [0,1] [Bo 2 2 0,Bo 3 2 1,Nw 4 2 z2,Ac 5 0])
 (.seq (.draw (some [2,3,4]) 8 [Dr (Fa 22 1 2) 0 [1,2,5,6,7],Db (L1 23 22) 1 22 [2,5,6,7],Dr (Fa 25 1 3) 3 [4,5,6,7],Db (L1 26 25) 4 25 [5,6,7],⟨Ca 24 71 [T 23] (some (.val (.one (.int .u64)))),2,.all,[5,6,7],false,false⟩,⟨Ca 27 71 [T 26] (some (.val (.one (.int .u64)))),5,.all,[6,7],false,false⟩,Dr (As 6 24) 6 [7],Dr (As 7 27) 7 []])
 (.seq (Rg [2,3,4,6,7] [Mv 28 6,Mv 29 7,Ca 30 72 [T 28,T 29] (some (.val (.one (.int .u64)))),As 8 30])
 (.seq (.draw (some [2,3,4,6,7,8]) 12 [Dr (Fa 32 0 2) 0 [1,2,6,7,8,9,10,11],Db (L1 33 32) 1 32 [2,6,7,8,9,10,11],Dr (Mv 35 7) 3 [5,6,7,8,9,10,11],Dr (Mv 36 8) 4 [5,6,7,8,9,10,11],Dr (Bt 37 .quo 69 35 36) 5 [6,7,8,9,10,11],⟨Ca 34 71 [T 33] (some (.val (.one (.int .u64)))),2,.all,[6,7,8,9,10,11],false,false⟩,⟨Ca 38 112 [T 34,T 37] (some (.mr [.one (.int .u64),.one (.int .u64)])),6,.all,[7,8,9,10,11],false,false⟩,Dr (Mv 31 38) 7 [8,9,10,11],Dr (Ex 39 31 0) 8 [10,11],Dr (Ex 40 31 1) 9 [11],Dr (As 9 39) 10 [11],Dr (As 10 40) 11 []])
 (.seq (.draw (some [2,3,4,6,7,8,9,10]) 12 [Dr (Fa 42 0 3) 0 [1,2,6,7,8,9,10,11],Db (L1 43 42) 1 42 [2,6,7,8,9,10,11],Dr (Mv 45 6) 3 [5,6,7,8,9,10,11],Dr (Mv 46 8) 4 [5,6,7,8,9,10,11],Dr (Bt 47 .quo 69 45 46) 5 [6,7,8,9,10,11],⟨Ca 44 71 [T 43] (some (.val (.one (.int .u64)))),2,.all,[6,7,8,9,10,11],false,false⟩,⟨Ca 48 112 [T 44,T 47] (some (.mr [.one (.int .u64),.one (.int .u64)])),6,.all,[7,8,9,10,11],false,false⟩,Dr (Mv 41 48) 7 [8,9,10,11],Dr (Ex 49 41 0) 8 [10,11],Dr (Ex 50 41 1) 9 [11],Dr (As 11 49) 10 [11],Dr (As 12 50) 11 []])
 (.seq (Rg [2,3,4,6,7,8,9,10,11,12] [Fa 51 0 2,L1 52 51,Bc 53 .lss 2 52 .i64 0,As 13 53])
 (.seq (Rg [2,3,4,6,7,8,9,10,11,12,13] [Ol 14 (.assign (.const (.int .u64 0))),Ol 15 (.assign (.const (.int .u64 0))),Ol 16 (.assign (.const (.int .u64 0)))])
 (.seq (.block 0 (.seq (Rg [2,3,4,6,7,8,9,10,11,12,13] [Fa 71 0 2,L1 72 71,Bc 73 .lss 2 72 .i64 0,Fa 74 0 3,L1 75 74,Bc 76 .lss 2 75 .i64 0,Bt 77 .eql 4 73 76,As 70 77])
 (.cond (T 70) (.seq (Rg [4,6,7,8,9,10,11,12,13] [Mv 79 10,Mv 80 12,Ca 81 113 [T 79,T 80,.const (.int .u64 0)] (some (.mr [.one (.int .u64),.one (.int .u64)])),Mv 78 81,Ex 82 78 0,Ex 83 78 1,As 15 82,As 16 83])
 (Rg [4,6,7,8,9,11,13,15,16] [Mv 85 9,Mv 86 11,Mv 87 16,Ca 88 113 [T 85,T 86,T 87] (some (.mr [.one (.int .u64),.one (.int .u64)])),Mv 84 88,Ex 89 84 0,Ex 90 84 1,As 14 89]))
 (.seq (Rg [3,4,6,7,8,9,10,11,12,13] [Mv 92 9,Mv 93 10,Mv 94 11,Mv 95 12,Ca 96 114 [T 92,T 93,T 94,T 95] vI,Bc 97 .geq 3 96 .i64 0,As 91 97])
 (.cond (T 91) (.seq (Rg [4,6,7,8,9,10,11,12,13] [Mv 99 10,Mv 100 12,Ca 101 115 [T 99,T 100,.const (.int .u64 0)] (some (.mr [.one (.int .u64),.one (.int .u64)])),Mv 98 101,Ex 102 98 0,Ex 103 98 1,As 15 102,As 16 103])
 (Rg [4,6,7,8,9,11,13,15,16] [Mv 105 9,Mv 106 11,Mv 107 16,Ca 108 115 [T 105,T 106,T 107] (some (.mr [.one (.int .u64),.one (.int .u64)])),Mv 104 108,Ex 109 104 0,Ex 110 104 1,As 14 109]))
 (.seq (Rg [3,4,6,7,8,9,10,11,12] [Fa 54 0 3,L1 55 54,Bc 56 .lss 2 55 .i64 0,As 13 56])
 (.seq (Rg [4,6,7,8,9,10,11,12,13] [Mv 58 12,Mv 59 10,Ca 60 115 [T 58,T 59,.const (.int .u64 0)] (some (.mr [.one (.int .u64),.one (.int .u64)])),Mv 57 60,Ex 61 57 0,Ex 62 57 1,As 15 61,As 16 62])
 (Rg [4,6,7,8,9,11,13,15,16] [Mv 64 11,Mv 65 9,Mv 66 16,Ca 67 115 [T 64,T 65,T 66] (some (.mr [.one (.int .u64),.one (.int .u64)])),Mv 63 67,Ex 68 63 0,Ex 69 63 1,As 14 68]))))))))
 (.seq (Rg [4,6,7,8,13,14,15] [Mv 111 8,Mv 112 14,Mv 113 15,Mv 114 8,Ca 115 116 [T 112,T 113,T 114] (some (.val (.one (.int .u64)))),Ca 116 72 [T 111,T 115] (some (.val (.one (.int .u64)))),As 17 116])
 (.seq (.seq (Rg [4,6,7,8,13,14,15,17] [Mv 117 14,Mv 118 17,Bt 119 .geq 69 117 118])
 (.cond (T 119) (.seq (Rg [4] [Ro 120 (.build z2 []),Sr 2 4 120,Ac 5 16])
 .ret)
 .skip))
 (.seq (Rg [4,6,7,8,13,14,15,17] [Mv 122 14,Mv 123 15,Mv 124 17,Ca 125 117 [T 122,T 123,T 124] (some (.mr [.one (.int .u64),.one (.int .u64)])),Mv 121 125,Ex 126 121 0,Ex 127 121 1,As 18 126,As 19 127])
 (.seq (.draw (some [4,6,7,8,13,17,18]) 12 [Dr (Mv 129 6) 0 [2,6,7,8,9,10,11],Dr (Mv 130 8) 1 [2,6,7,8,9,10,11],Dr (Bt 131 .quo 69 129 130) 2 [6,7,8,9,10,11],Dr (Mv 132 7) 3 [5,6,7,8,9,10,11],Dr (Mv 133 17) 4 [5,6,7,8,9,10,11],Dr (Bt 134 .quo 69 132 133) 5 [6,7,8,9,10,11],⟨Ca 135 112 [T 131,T 134] (some (.mr [.one (.int .u64),.one (.int .u64)])),6,.all,[7,8,9,10,11],false,false⟩,Dr (Mv 128 135) 7 [8,9,10,11],Dr (Ex 136 128 0) 8 [10,11],Dr (Ex 137 128 1) 9 [11],Dr (As 20 136) 10 [11],Dr (As 21 137) 11 []])
 (.seq (.seq (Rg [4,13,18,20,21] [Mv 138 20,Bc 139 .neq 69 138 .u64 0])
 (.cond (T 139) (.seq (Rg [4] [Ro 140 (.build z2 []),Sr 2 4 140,Ac 5 16])
 .ret)
 .skip))
 (.seq (Rg [4,13,18,21] [Mv 141 13,Mv 142 18,Mv 143 21,Ca 144 73 [T 141,T 142,T 143] (some (.mr [.agg s2,.one (.int .i64)])),Ex 145 144 0,Ex 146 144 1,Sr 2 4 145,As 5 146])
 .ret))))))))))))),
 [.agg 4 2 [.int .i64,.int .i64],.tmp 5],
 [],
 []⟩
theorem TG: fJ (progU ()) hint live 91 Try.f91=some r91:=by kernel_rfl
def x94:RX 94 Try.f94:=by constructor;conv=>lhs;cbv
def x95:RX 95 Try.f95:=by constructor;conv=>lhs;cbv
def r96 : k9 :=
⟨.seq (Rg [0,1,2] [Ol 7 (.move (Ci 0))])
 (.block 0 (.loop 1 (some [0,1,2,7]) (some [0,1,2,7]))),
 [],
 [(1,⟨some [0,1,2,7],some [0,1,2,7],.seq (Rg [0,1,2,7] [Bc 8 .lss 3 7 .i64 4])
 (.seq (.cond (T 8) .skip
 (.exit 0 (some [])))
 (.seq (.block 1 (.seq (Rg [0,1,2,7] [Mv 9 7,As 6 9])
 (.draw (some [0,1,2,6,7]) 32 [Dr (Mv 10 0) 0 [22,23,24,25,26,30,31],Dr (Mv 11 6) 1 [24,25,26,30,31],Dr (Mv 12 1) 2 [25,26,30,31],Dr (Mv 13 0) 3 [27,28,29,30,31],Dr (Mv 14 6) 4 [29,30,31],Dr (Mv 15 2) 5 [30,31],Dr (Mv 16 0) 6 [9,10,11,12,13,25,26,30,31],Dr (Mv 17 6) 7 [11,12,13,25,26,30,31],Dr (Mv 18 2) 8 [12,13,25,26,30,31],Dr (Ol 19 (.nilCheck (T 16))) 9 [10,11,12,13,25,26,30,31],Dr (Fa 20 1 19) 10 [11,12,13,25,26,30,31],Dr (Ro 21 (.wW 4 4 (T 20) (T 17))) 11 [12,13,25,26,30,31],Dr (Ro 22 (.wW 4 1 (T 21) (T 18))) 12 [13,25,26,30,31],Db (L1 23 22) 13 22 [25,26,30,31],Dr (Mv 24 0) 14 [17,18,19,20,21,25,26,30,31],Dr (Mv 25 6) 15 [19,20,21,25,26,30,31],Dr (Mv 26 1) 16 [20,21,25,26,30,31],Dr (Ol 27 (.nilCheck (T 24))) 17 [18,19,20,21,25,26,30,31],Dr (Fa 28 1 27) 18 [19,20,21,25,26,30,31],Dr (Ro 29 (.wW 4 4 (T 28) (T 25))) 19 [20,21,25,26,30,31],Dr (Ro 30 (.wW 4 1 (T 29) (T 26))) 20 [21,25,26,30,31],Db (L1 31 30) 21 30 [25,26,30,31],Dr (Ol 32 (.nilCheck (T 10))) 22 [23,24,25,26,30,31],Dr (Fa 33 1 32) 23 [24,25,26,30,31],Dr (Ro 34 (.wW 4 4 (T 33) (T 11))) 24 [25,26,30,31],Dr (Ro 35 (.wW 4 1 (T 34) (T 12))) 25 [26,30,31],⟨Sr 1 35 23,26,.dh (T 35),[30,31],true,true⟩,Dr (Ol 36 (.nilCheck (T 13))) 27 [28,29,30,31],Dr (Fa 37 1 36) 28 [29,30,31],Dr (Ro 38 (.wW 4 4 (T 37) (T 14))) 29 [30,31],Dr (Ro 39 (.wW 4 1 (T 38) (T 15))) 30 [31],⟨Sr 1 39 31,31,.dh (T 39),[],true,true⟩])))
 (Rg [0,1,2,7] [Bc 40 .add 3 7 .i64 1,Mv 7 40])))⟩)],
 []⟩
theorem GX: fJ (progU ()) hint live 96 Try.f96=some r96:=by kernel_rfl
def x97:RX 97 Try.f97:=by constructor;conv=>lhs;cbv
