import Derived.Test.YtdpbiegfljmhmaaSeat0
import Derived.Test.YtdpbiegfljmhmaaSymS
set_option linter.unusedSimpArgs false
set_option linter.unusedVariables false
namespace Go.Proofs.Ytdpbiegfljmhmaa
open Go.Sim
set_option maxRecDepth 100000
def r6 : RFun :=
⟨.seq (Rg [] [Ol 0 (.assign (.const (.bool false)))])
 (.seq (Rg [] [Ca 34 23 [.const (.int .i64 0),.const (.int .i64 1)] (some (.val (.agg s2))),Nw 1 2 z2,Sr 2 1 34])
 (.seq (.draw (some [1]) 43 [Dr (Ro 35 (.build [.slice none 0 0,.slice none 0 0] [])) 0 [41,42],⟨Ro 36 (.buildSlice 1 0 [] []),1,.new false,[2,5,41,42],false,true⟩,⟨Ro 37 (.buildSlice 1 1 [.slice none 0 0] [(0,1,(T 36))]),2,.new false,[5,41,42],false,true⟩,Db (Ld 38 1) 3 1 [4,5,41,42],⟨Ro 39 (.buildSlice 2 1 z2 [(0,2,(T 38))]),4,.new false,[5,41,42],false,true⟩,Dr (Ro 40 (.build [.slice none 0 0,.slice none 0 0] [(0,1,(T 37)),(1,1,(T 39))])) 5 [41,42],⟨Ro 41 (.buildSlice 1 1 [.int .i64 0] [(0,1,(Ci 1))]),6,.new false,[7,8,41,42],false,true⟩,⟨Ro 42 (.buildSlice 1 1 [.slice none 0 0] [(0,1,(T 41))]),7,.new false,[8,41,42],false,true⟩,Dr (Ro 43 (.build [.slice none 0 0,.slice none 0 0] [(0,1,(T 42))])) 8 [41,42],⟨Ro 44 (.buildSlice 1 1 [.int .i64 0] [(0,1,(Ci 1))]),9,.new false,[11,15,41,42],false,true⟩,⟨Ro 45 (.buildSlice 1 2 z2 [(0,1,(Ci 1)),(1,1,(Ci 2))]),10,.new false,[11,15,41,42],false,true⟩,⟨Ro 46 (.buildSlice 1 2 [.slice none 0 0,.slice none 0 0] [(0,1,(T 44)),(1,1,(T 45))]),11,.new false,[15,41,42],false,true⟩,Db (Ld 47 1) 12 1 [14,15,41,42],Db (Ld 48 1) 13 1 [14,15,41,42],⟨Ro 49 (.buildSlice 2 2 [.int .i64 0,.int .i64 0,.int .i64 0,.int .i64 0] [(0,2,(T 47)),(2,2,(T 48))]),14,.new false,[15,41,42],false,true⟩,Dr (Ro 50 (.build [.slice none 0 0,.slice none 0 0] [(0,1,(T 46)),(1,1,(T 49))])) 15 [41,42],⟨Ro 51 (.buildSlice 1 1 [.int .i64 0] [(0,1,(Ci 10))]),16,.new false,[17,20,41,42],false,true⟩,⟨Ro 52 (.buildSlice 1 1 [.slice none 0 0] [(0,1,(T 51))]),17,.new false,[20,41,42],false,true⟩,Db (Ld 53 1) 18 1 [19,20,41,42],⟨Ro 54 (.buildSlice 2 1 z2 [(0,2,(T 53))]),19,.new false,[20,41,42],false,true⟩,Dr (Ro 55 (.build [.slice none 0 0,.slice none 0 0] [(0,1,(T 52)),(1,1,(T 54))])) 20 [41,42],⟨Ro 56 (.buildSlice 1 1 [.int .i64 0] [(0,1,(Ci 1))]),21,.new false,[22,25,41,42],false,true⟩,⟨Ro 57 (.buildSlice 1 1 [.slice none 0 0] [(0,1,(T 56))]),22,.new false,[25,41,42],false,true⟩,⟨Ro 61 (.buildSlice 1 1 [.int .i64 0] [(0,1,(Ci 1))]),26,.new false,[27,30,41,42],false,true⟩,⟨Ro 62 (.buildSlice 1 1 [.slice none 0 0] [(0,1,(T 61))]),27,.new false,[30,41,42],false,true⟩,⟨Ro 66 (.buildSlice 1 1 [.int .i64 0] [(0,1,(Ci 1))]),31,.new false,[32,35,41,42],false,true⟩,⟨Ro 67 (.buildSlice 1 1 [.slice none 0 0] [(0,1,(T 66))]),32,.new false,[35,41,42],false,true⟩,⟨Ro 71 (.buildSlice 1 1 [.int .i64 0] [(0,1,(Ci 1))]),36,.new false,[37,40,41,42],false,true⟩,⟨Ro 72 (.buildSlice 1 1 [.slice none 0 0] [(0,1,(T 71))]),37,.new false,[40,41,42],false,true⟩,Dr (Ro 73 (.build z2 [(0,1,(Ci 2)),(1,1,(Ci 4))])) 38 [39,40,41,42],⟨Ro 74 (.buildSlice 2 1 z2 [(0,2,(T 73))]),39,.new false,[40,41,42],false,true⟩,Dr (Ro 75 (.build [.slice none 0 0,.slice none 0 0] [(0,1,(T 72)),(1,1,(T 74))])) 40 [41,42],⟨Ca 58 23 [.const (.int .i64 1),.const (.int .i64 61)] (some (.val (.agg s2))),23,.all,[24,25,28,29,30,33,34,35,41,42],false,false⟩,⟨Ro 59 (.buildSlice 2 1 z2 [(0,2,(T 58))]),24,.new false,[25,41,42],false,true⟩,Dr (Ro 60 (.build [.slice none 0 0,.slice none 0 0] [(0,1,(T 57)),(1,1,(T 59))])) 25 [41,42],⟨Ca 63 23 [.const (.int .i64 1),.const (.int .i64 1)] (some (.val (.agg s2))),28,.all,[29,30,33,34,35,41,42],false,false⟩,⟨Ro 64 (.buildSlice 2 1 z2 [(0,2,(T 63))]),29,.new false,[30,41,42],false,true⟩,Dr (Ro 65 (.build [.slice none 0 0,.slice none 0 0] [(0,1,(T 62)),(1,1,(T 64))])) 30 [41,42],⟨Ca 68 23 [.const (.int .i64 (-1)),.const (.int .i64 2)] (some (.val (.agg s2))),33,.all,[34,35,41,42],false,false⟩,⟨Ro 69 (.buildSlice 2 1 z2 [(0,2,(T 68))]),34,.new false,[35,41,42],false,true⟩,Dr (Ro 70 (.build [.slice none 0 0,.slice none 0 0] [(0,1,(T 67)),(1,1,(T 69))])) 35 [41,42],⟨Ro 76 (.buildSlice 2 9 [.slice none 0 0,.slice none 0 0,.slice none 0 0,.slice none 0 0,.slice none 0 0,.slice none 0 0,.slice none 0 0,.slice none 0 0,.slice none 0 0,.slice none 0 0,.slice none 0 0,.slice none 0 0,.slice none 0 0,.slice none 0 0,.slice none 0 0,.slice none 0 0,.slice none 0 0,.slice none 0 0] [(0,2,(T 35)),(2,2,(T 40)),(4,2,(T 43)),(6,2,(T 50)),(8,2,(T 55)),(10,2,(T 60)),(12,2,(T 65)),(14,2,(T 70)),(16,2,(T 75))]),41,.new false,[42],false,true⟩,Dr (As 2 76) 42 []])
 (.seq (.seq (Rg [1,2] [Ac 3 0])
 (.block 0 (.loop 4 none (some [1,2,3]))))
 (.seq (Rg [1] [Ro 101 (.mkSlice 1 [.slice none 0 0] (Ci 5) (Ci 5)),Ro 102 (.build [.slice none 0 0,.slice none 0 0] [(0,1,(T 101))]),Ca 103 12 [T 102] vI,As 6 103])
 (.seq (.draw (some [1,6]) 7 [⟨Ro 104 (.mkSlice 1 [.int .i64 0] (Ci 5) (Ci 5)),0,.new false,[1,4,5,6],false,true⟩,⟨Ro 105 (.buildSlice 1 1 [.slice none 0 0] [(0,1,(T 104))]),1,.new false,[4,5,6],false,true⟩,Db (Ld 106 1) 2 1 [3,4,5,6],⟨Ro 107 (.buildSlice 2 1 z2 [(0,2,(T 106))]),3,.new false,[4,5,6],false,true⟩,Dr (Ro 108 (.build [.slice none 0 0,.slice none 0 0] [(0,1,(T 105)),(1,1,(T 107))])) 4 [5,6],⟨Ca 109 12 [T 108] vI,5,.all,[6],false,false⟩,Dr (As 7 109) 6 []])
 (.seq (Rg [1,6,7] [Ro 110 (.buildSlice 1 2 z2 [(0,1,(Ci 0)),(1,1,(Ci 0))]),Ro 111 (.buildSlice 1 1 [.slice none 0 0] [(0,1,(T 110))]),Ld 112 1,Ro 113 (.buildSlice 2 1 z2 [(0,2,(T 112))]),Ro 114 (.build [.slice none 0 0,.slice none 0 0] [(0,1,(T 111)),(1,1,(T 113))]),Nw 8 2 [.slice none 0 0,.slice none 0 0],Sr 2 8 114])
 (.seq (Rg [1,6,7,8] [Ro 116 (.load 2 [.slice,.slice] (T 8)),Ca 117 8 [T 116] (some (.tup [.one .slice,.one (.int .i64)])),Mv 115 117,Ex 118 115 0,Ex 119 115 1,As 9 118,As 10 119])
 (.seq (Rg [1,6,7,8,9,10] [Ro 121 (.load 2 [.slice,.slice] (T 8)),Ca 122 10 [T 121] (some (.tup [.one .slice,.one (.int .i64)])),Mv 120 122,Ex 123 120 0,Ex 124 120 1,As 11 123,As 12 124])
 (.seq (Rg [1,6,7,8,9,10,11,12] [Ro 126 (.load 2 [.slice,.slice] (T 8)),Ca 127 24 [T 126] (some (.tup [.one (.int .i64),.one (.int .i64),.one (.int .i64)])),Mv 125 127,Ex 128 125 0,Ex 129 125 1,Ex 130 125 2,As 13 128,As 14 129,As 15 130])
 (.seq (Rg [1,6,7,8,9,10,11,12,13,14,15] [Ro 132 (.load 2 [.slice,.slice] (T 8)),Ca 133 21 [T 132] (some (.tup [.one .slice,.one (.int .i64)])),Mv 131 133,Ex 134 131 0,Ex 135 131 1,As 16 134,As 17 135])
 (.seq (Rg [1,6,7,9,10,11,12,13,14,15,17] [Ro 137 (.buildSlice 1 1 [.int .i64 0] [(0,1,(Ci 0))]),Ro 138 (.buildSlice 1 1 [.slice none 0 0] [(0,1,(T 137))]),Ca 139 23 [.const (.int .i64 1),.const (.int .i64 2)] (some (.val (.agg s2))),Ro 140 (.buildSlice 2 1 z2 [(0,2,(T 139))]),Ro 141 (.build [.slice none 0 0,.slice none 0 0] [(0,1,(T 138)),(1,1,(T 140))]),Ca 142 24 [T 141] (some (.tup [.one (.int .i64),.one (.int .i64),.one (.int .i64)])),Mv 136 142,Ex 143 136 0,Ex 144 136 1,Ex 145 136 2,As 18 143,As 19 144,As 20 145])
 (.seq (Rg [1,6,7,9,10,11,12,13,14,15,17,20] [Ro 147 (.buildSlice 1 1 [.int .i64 0] [(0,1,(Ci 0))]),Ro 148 (.buildSlice 1 1 [.slice none 0 0] [(0,1,(T 147))]),Ca 149 23 [.const (.int .i64 1),.const (.int .i64 2)] (some (.val (.agg s2))),Ro 150 (.buildSlice 2 1 z2 [(0,2,(T 149))]),Ro 151 (.build [.slice none 0 0,.slice none 0 0] [(0,1,(T 148)),(1,1,(T 150))]),Ca 152 21 [T 151] (some (.tup [.one .slice,.one (.int .i64)])),Mv 146 152,Ex 153 146 0,Ex 154 146 1,As 21 153,As 22 154])
 (.seq (Rg [1,6,7,9,10,11,12,13,14,15,17,20,22] [Ro 156 (.buildSlice 1 2 z2 [(0,1,(Ci 9)),(1,1,(Ci 0))]),Ro 157 (.buildSlice 1 2 z2 [(0,1,(Ci 0)),(1,1,(Ci 9))]),Ro 158 (.buildSlice 1 2 [.slice none 0 0,.slice none 0 0] [(0,1,(T 156)),(1,1,(T 157))]),Ld 159 1,Ld 160 1,Ro 161 (.buildSlice 2 2 [.int .i64 0,.int .i64 0,.int .i64 0,.int .i64 0] [(0,2,(T 159)),(2,2,(T 160))]),Ro 162 (.build [.slice none 0 0,.slice none 0 0] [(0,1,(T 158)),(1,1,(T 161))]),Ca 163 21 [T 162] (some (.tup [.one .slice,.one (.int .i64)])),Mv 155 163,Ex 164 155 0,Ex 165 155 1,As 23 164,As 24 165])
 (.seq (Rg [1,6,7,9,10,11,12,13,14,15,17,20,22,24] [Ro 167 (.buildSlice 1 2 z2 [(0,1,(Ci 8)),(1,1,(Ci 0))]),Ro 168 (.buildSlice 1 2 z2 [(0,1,(Ci 0)),(1,1,(Ci 8))]),Ro 169 (.buildSlice 1 2 [.slice none 0 0,.slice none 0 0] [(0,1,(T 167)),(1,1,(T 168))]),Ld 170 1,Ld 171 1,Ro 172 (.buildSlice 2 2 [.int .i64 0,.int .i64 0,.int .i64 0,.int .i64 0] [(0,2,(T 170)),(2,2,(T 171))]),Ro 173 (.build [.slice none 0 0,.slice none 0 0] [(0,1,(T 169)),(1,1,(T 172))]),Ca 174 21 [T 173] (some (.tup [.one .slice,.one (.int .i64)])),Mv 166 174,Ex 175 166 0,Ex 176 166 1,As 25 175,As 26 176])
 (.seq (Rg [6,7,9,10,11,12,13,14,15,17,20,22,24,25,26] [Ca 178 26 [] (some (.val (.agg [.slice,.slice]))),Ca 179 23 [.const (.int .i64 1),.const (.int .i64 4)] (some (.val (.agg s2))),Ro 180 (.buildSlice 2 1 z2 [(0,2,(T 179))]),Ca 181 25 [T 178,T 180] (some (.tup [.one .bool,.one (.int .i64)])),Mv 177 181,Ex 182 177 0,Ex 183 177 1,As 27 182,As 28 183])
 (.seq (Rg [6,7,9,10,11,12,13,14,15,17,20,22,24,25,26,27,28] [Ca 185 26 [] (some (.val (.agg [.slice,.slice]))),Ca 186 23 [.const (.int .i64 3),.const (.int .i64 4)] (some (.val (.agg s2))),Ca 187 23 [.const (.int .i64 1),.const (.int .i64 4)] (some (.val (.agg s2))),Ro 188 (.buildSlice 2 2 [.int .i64 0,.int .i64 0,.int .i64 0,.int .i64 0] [(0,2,(T 186)),(2,2,(T 187))]),Ca 189 25 [T 185,T 188] (some (.tup [.one .bool,.one (.int .i64)])),Mv 184 189,Ex 190 184 0,Ex 191 184 1,As 29 190,As 30 191])
 (.seq (Rg [6,7,9,10,11,12,13,14,15,17,20,22,24,25,26,27,28,29,30] [Ca 193 26 [] (some (.val (.agg [.slice,.slice]))),Ca 194 23 [.const (.int .i64 7),.const (.int .i64 4)] (some (.val (.agg s2))),Ca 195 23 [.const (.int .i64 1),.const (.int .i64 4)] (some (.val (.agg s2))),Ro 196 (.buildSlice 2 2 [.int .i64 0,.int .i64 0,.int .i64 0,.int .i64 0] [(0,2,(T 194)),(2,2,(T 195))]),Ca 197 25 [T 193,T 196] (some (.tup [.one .bool,.one (.int .i64)])),Mv 192 197,Ex 198 192 0,Ex 199 192 1,As 31 198,As 32 199])
 (.seq (Rg [6,7,9,10,11,12,13,14,15,17,20,22,24,25,26,27,28,29,30,31,32] [Ol 200 (.move (.const (.bool true))),⟨some 201,some (200,true),.call (.func 16) [] vB⟩,Ol 202 (.pick (T 200) (T 201) (.const (.bool false))),Mv 203 202,Gt 204 203 (.move (T 6)),Gt 205 203 (.binOp .eql 28 (T 204) (Ci 4) 28),Ol 206 (.pick (T 203) (T 205) (.const (.bool false))),Mv 207 206,Gt 208 207 (.move (T 7)),Gt 209 207 (.binOp .eql 28 (T 208) (Ci 4) 28),Ol 210 (.pick (T 207) (T 209) (.const (.bool false))),Mv 211 210,Gt 212 211 (.move (T 10)),Gt 213 211 (.binOp .eql 28 (T 212) (Ci 0) 28),Ol 214 (.pick (T 211) (T 213) (.const (.bool false))),Mv 215 214,Gt 216 215 (.move (T 9)),Ht 217 215 (.lenS (T 216)),Gt 218 215 (.binOp .eql 3 (T 217) (Ci 0) 3),Ol 219 (.pick (T 215) (T 218) (.const (.bool false))),Mv 220 219,Gt 221 220 (.move (T 12)),Gt 222 220 (.binOp .eql 28 (T 221) (Ci 0) 28),Ol 223 (.pick (T 220) (T 222) (.const (.bool false))),Mv 224 223,Gt 225 224 (.move (T 11)),Ht 226 224 (.buildSlice 1 1 [.int .i64 0] [(0,1,(Ci 1))]),Ht 227 224 (.buildSlice 1 1 [.slice none 0 0] [(0,1,(T 226))]),⟨some 228,some (224,true),.call (.func 15) [T 225,T 227] vB⟩,Ol 229 (.pick (T 224) (T 228) (.const (.bool false))),Mv 230 229,Gt 231 230 (.move (T 15)),Gt 232 230 (.binOp .eql 28 (T 231) (Ci 0) 28),Ol 233 (.pick (T 230) (T 232) (.const (.bool false))),Mv 234 233,Gt 235 234 (.move (T 13)),Gt 236 234 (.binOp .eql 3 (T 235) (Ci 1) 3),Ol 237 (.pick (T 234) (T 236) (.const (.bool false))),Mv 238 237,Gt 239 238 (.move (T 14)),Gt 240 238 (.binOp .eql 3 (T 239) (Ci 2) 3),Ol 241 (.pick (T 238) (T 240) (.const (.bool false))),Mv 242 241,Gt 243 242 (.move (T 17)),Gt 244 242 (.binOp .eql 28 (T 243) (Ci 24) 28),Ol 245 (.pick (T 242) (T 244) (.const (.bool false))),Mv 246 245,Gt 247 246 (.move (T 20)),Gt 248 246 (.binOp .eql 28 (T 247) (Ci 6) 28),Ol 249 (.pick (T 246) (T 248) (.const (.bool false))),Mv 250 249,Gt 251 250 (.move (T 22)),Gt 252 250 (.binOp .eql 28 (T 251) (Ci 6) 28),Ol 253 (.pick (T 250) (T 252) (.const (.bool false))),Mv 254 253,Gt 255 254 (.move (T 24)),Gt 256 254 (.binOp .eql 28 (T 255) (Ci 4) 28),Ol 257 (.pick (T 254) (T 256) (.const (.bool false))),As 33 257])
 (.seq (Rg [25,26,27,28,29,30,31,32,33] [Mv 258 33,Mv 259 258,Gt 260 259 (.move (T 26)),Gt 261 259 (.binOp .eql 28 (T 260) (Ci 0) 28),Ol 262 (.pick (T 259) (T 261) (.const (.bool false))),Mv 263 262,Gt 264 263 (.move (T 25)),Ht 265 263 (.lenS (T 264)),Gt 266 263 (.binOp .eql 3 (T 265) (Ci 64) 3),Ol 267 (.pick (T 263) (T 266) (.const (.bool false))),Mv 268 267,Gt 269 268 (.move (T 28)),Gt 270 268 (.binOp .eql 28 (T 269) (Ci 0) 28),Ol 271 (.pick (T 268) (T 270) (.const (.bool false))),Mv 272 271,Gt 273 272 (.move (T 27)),Gt 274 272 (.unOp .not 4 (T 273)),Ol 275 (.pick (T 272) (T 274) (.const (.bool false))),Mv 276 275,Gt 277 276 (.move (T 30)),Gt 278 276 (.binOp .eql 28 (T 277) (Ci 0) 28),Ol 279 (.pick (T 276) (T 278) (.const (.bool false))),Mv 280 279,Gt 281 280 (.move (T 29)),Ol 282 (.pick (T 280) (T 281) (.const (.bool false))),Mv 283 282,Gt 284 283 (.move (T 32)),Gt 285 283 (.binOp .eql 28 (T 284) (Ci 0) 28),Ol 286 (.pick (T 283) (T 285) (.const (.bool false))),Mv 287 286,Gt 288 287 (.move (T 31)),Gt 289 287 (.unOp .not 4 (T 288)),Ol 290 (.pick (T 287) (T 289) (.const (.bool false))),As 0 290])
 .ret))))))))))))))))))),
 [.tmp 0],
 [(4,⟨none,some [1,2,3],.seq (.seq (Rg [1,2,3] [Mv 77 3,Mv 78 2,Ro 79 (.lenS (T 78)),Bt 80 .lss 3 77 79])
 (.cond (T 80) .skip
 (.exit 0 (some [1]))))
 (.seq (.block 1 (.seq (Rg [1,2,3] [Mv 84 2,Mv 85 3,Ix 86 2 84 85,Ro 87 (.load 2 [.slice,.slice] (T 86)),Ca 88 21 [T 87] (some (.tup [.one .slice,.one (.int .i64)])),Mv 83 88,Ex 89 83 0,Ex 90 83 1,As 4 89,As 5 90])
 (.seq (Rg [1,2,3,5] [Mv 91 2,Mv 92 3,Ix 93 2 91 92,Ro 94 (.load 2 [.slice,.slice] (T 93)),Ca 95 12 [T 94] vI,Bc 96 .neq 28 95 .i64 8,Mv 97 96,Gf 98 97 (.move (T 5)),Gf 99 97 (.binOp .neq 28 (T 98) (Ci 8) 28),Ol 100 (.pick (T 97) (.const (.bool true)) (T 99))])
 (.cond (T 100) (.seq (Rg [] [Ol 0 (.assign (.const (.bool false)))])
 .ret)
 .skip))))
 (Rg [1,2,3] [Mv 81 3,Bc 82 .add 3 81 .i64 1,As 3 82]))⟩)],
 []⟩
def r7 : RFun :=
⟨.seq (Rg [0] [Bo 1 2 0,Ol 2 (.assign (.const (.bool false)))])
 (.seq (.seq (Rg [1] [Ac 3 0])
 (.block 0 (.loop 2 none (some [1,3]))))
 (.seq (Rg [1] [Fa 18 0 1,Ro 19 (.load1 .slice (T 18)),Ro 20 (.lenS (T 19)),Bc 21 .gtr 3 20 .i64 40,Mv 22 21,Hf 23 22 (.fieldAddr 1 (T 1)),Hf 24 22 (.load1 .slice (T 23)),Hf 25 22 (.lenS (T 24)),Gf 26 22 (.binOp .gtr 3 (T 25) (Ci 40) 3),Ol 27 (.pick (T 22) (.const (.bool true)) (T 26)),As 2 27])
 .ret)),
 [.tmp 2],
 [(2,⟨none,some [1,3],.seq (.seq (Rg [1,3] [Mv 4 3,Fa 5 0 1,Ro 6 (.load1 .slice (T 5)),Ro 7 (.lenS (T 6)),Bt 8 .lss 3 4 7])
 (.cond (T 8) .skip
 (.exit 0 (some [1]))))
 (.seq (.block 1 (.seq (Rg [1,3] [Fa 11 0 1,Ro 12 (.load1 .slice (T 11)),Mv 13 3,Ix 14 1 12 13,Ro 15 (.load1 .slice (T 14)),Ro 16 (.lenS (T 15)),Bc 17 .gtr 3 16 .i64 40])
 (.cond (T 17) (.seq (Rg [] [Ol 2 (.assign (.const (.bool true)))])
 .ret)
 .skip)))
 (Rg [1,3] [Mv 9 3,Bc 10 .add 3 9 .i64 1,As 3 10]))⟩)],
 []⟩
def r8 : RFun :=
⟨.seq (Rg [0] [Bo 1 2 0,Ol 2 (.assign (.const (.slice none 0 0))),Ac 3 0])
 (.seq (.seq (Rg [1] [Ro 8 (.load 2 [.slice,.slice] (T 1)),Ca 9 12 [T 8] vI,As 4 9])
 (.seq (Rg [1,4] [Mv 10 4,Bc 11 .neq 28 10 .i64 0])
 (.cond (T 11) (.seq (Rg [4] [Mv 12 4,Ol 2 (.assign (.const (.slice none 0 0))),As 3 12])
 .ret)
 .skip)))
 (.seq (Rg [1] [Fa 13 0 1,Ro 14 (.load1 .slice (T 13)),Ca 15 27 [T 14] (some (.val (.one .slice))),As 5 15])
 (.seq (Rg [5] [Ol 6 (.assign (.const (.slice none 0 0)))])
 (.seq (.seq (Rg [5,6] [Ac 7 1])
 (.block 0 (.loop 7 (some [5,6,7]) (some [5,6,7]))))
 (.seq (Rg [6] [Mv 35 6,As 2 35,Ac 3 0])
 .ret))))),
 [.tmp 2,.tmp 3],
 [(7,⟨some [5,6,7],some [5,6,7],.seq (.seq (Rg [5,6,7] [Mv 16 7,Mv 17 5,Ro 18 (.lenS (T 17)),Bt 19 .lss 3 16 18])
 (.cond (T 19) .skip
 (.exit 0 (some [6]))))
 (.seq (.block 1 (.draw (some [5,6,7]) 14 [Dr (Mv 22 6) 0 [12,13],Dr (Mv 23 5) 1 [3,4,10,11,12,13],Dr (Mv 24 7) 2 [3,4,10,11,12,13],Dr (Ix 25 1 23 24) 3 [4,10,11,12,13],Db (L1 26 25) 4 25 [10,11,12,13],Dr (Mv 27 5) 5 [8,9,10,11,12,13],Dr (Mv 28 7) 6 [7,8,9,10,11,12,13],Dr (Bc 29 .sub 3 28 .i64 1) 7 [8,9,10,11,12,13],Dr (Ix 30 1 27 29) 8 [9,10,11,12,13],Db (L1 31 30) 9 30 [10,11,12,13],Dr (Bt 32 .quo 3 26 31) 10 [11,12,13],⟨Ro 33 (.buildSlice 1 1 [.int .i64 0] [(0,1,(T 32))]),11,.new false,[12,13],false,true⟩,⟨⟨some 34,none,.op false (.old (.call ⟨.builtin .append,#[T 22,T 33],#[27,27]⟩))⟩,12,.app [T 22,T 33],[13],false,false⟩,Dr (As 6 34) 13 []]))
 (Rg [5,6,7] [Mv 20 7,Bc 21 .add 3 20 .i64 1,As 7 21]))⟩)],
 []⟩
theorem r8_ok:resFun (progU ()) hint live 8 Try.f8=some r8:=by kernel_rfl
def r10 : RFun :=
⟨.seq (Rg [0] [Bo 1 2 0,Ol 2 (.assign (.const (.slice none 0 0))),Ac 3 0])
 (.seq (.seq (Rg [1] [Ro 7 (.load 2 [.slice,.slice] (T 1)),Ca 8 12 [T 7] vI,As 4 8])
 (.seq (Rg [1,4] [Mv 9 4,Bc 10 .neq 28 9 .i64 0])
 (.cond (T 10) (.seq (Rg [4] [Mv 11 4,Ol 2 (.assign (.const (.slice none 0 0))),As 3 11])
 .ret)
 .skip)))
 (.seq (Rg [1] [Fa 13 0 1,Ro 14 (.load1 .slice (T 13)),Ca 15 29 [T 14] (some (.tup [.one .slice,.one .slice])),Mv 12 15,Ex 16 12 0,Ex 17 12 1,As 5 16,As 6 17])
 (.seq (Rg [6] [Mv 18 6,As 2 18,Ac 3 0])
 .ret))),
 [.tmp 2,.tmp 3],
 [],
 []⟩
theorem r10_ok:resFun (progU ()) hint live 10 Try.f10=some r10:=by kernel_rfl
def r11 : RFun :=
⟨.seq (Rg [0] [Bo 1 2 0,Ol 2 (.assign (.const (.slice none 0 0))),Ac 3 0])
 (.seq (.seq (Rg [1] [Ro 4 (.load 2 [.slice,.slice] (T 1)),Ca 5 13 [T 4] vI,Bc 6 .neq 3 5 .i64 0])
 (.cond (T 6) (.seq (Rg [1] [Ro 7 (.load 2 [.slice,.slice] (T 1)),Ca 8 13 [T 7] vI,Ol 2 (.assign (.const (.slice none 0 0))),As 3 8])
 .ret)
 .skip))
 (.seq (Rg [1] [Fa 9 0 1,Ro 10 (.load1 .slice (T 9)),Ca 11 30 [T 10] (some (.val (.one .slice))),As 2 11,Ac 3 0])
 .ret)),
 [.tmp 2,.tmp 3],
 [],
 []⟩
def r12 : RFun :=
⟨.seq (Rg [0] [Bo 1 2 0,Ac 2 0])
 (.seq (.seq (Rg [1] [Fa 11 0 1,Ro 12 (.load1 .slice (T 11)),Ro 13 (.lenS (T 12)),Bc 14 .gtr 3 13 .i64 4])
 (.cond (T 14) (.seq (Rg [] [Ac 2 4])
 .ret)
 .skip))
 (.seq (.seq (Rg [1] [Fa 15 0 1,Ro 16 (.load1 .slice (T 15)),Ro 17 (.lenS (T 16)),Ol 18 (.move (Ci 0))])
 (.block 0 (.loop 4 none (some [1,16,17,18]))))
 (.seq (.seq (Rg [1] [Fa 26 0 1,Ro 27 (.load1 .slice (T 26)),Ro 28 (.lenS (T 27)),Bc 29 .eql 3 28 .i64 0,Mv 30 29,Hf 31 30 (.fieldAddr 0 (T 1)),Hf 32 30 (.load1 .slice (T 31)),Hf 33 30 (.ixS 1 (T 32) (Ci 0)),Hf 34 30 (.load1 .slice (T 33)),Hf 35 30 (.lenS (T 34)),Gf 36 30 (.binOp .eql 3 (T 35) (Ci 0) 3),Ol 37 (.pick (T 30) (.const (.bool true)) (T 36)),Mv 38 37,Hf 39 38 (.fieldAddr 1 (T 1)),Hf 40 38 (.load1 .slice (T 39)),Hf 41 38 (.lenS (T 40)),Hf 42 38 (.fieldAddr 0 (T 1)),Hf 43 38 (.load1 .slice (T 42)),Hf 44 38 (.lenS (T 43)),Gf 45 38 (.binOp .neq 3 (T 41) (T 44) 3),Ol 46 (.pick (T 38) (.const (.bool true)) (T 45))])
 (.cond (T 46) (.seq (Rg [] [Ac 2 8])
 .ret)
 .skip))
 (.seq (.seq (Rg [1] [Fa 47 0 1,Ro 48 (.load1 .slice (T 47)),Ro 49 (.lenS (T 48)),Ol 50 (.move (Ci 0))])
 (.block 2 (.loop 12 none (some [1,48,49,50]))))
 (.seq (.seq (Rg [1] [Fa 76 1 1,Ro 77 (.load1 .slice (T 76)),Ro 78 (.lenS (T 77)),Ol 79 (.move (Ci 0))])
 (.block 6 (.loop 24 (some [77,78,79]) (some [77,78,79]))))
 (.seq (Rg [] [Ac 2 0])
 .ret)))))),
 [.tmp 2],
 [(4,⟨none,some [1,16,17,18],.seq (Rg [1,16,17,18] [Bt 19 .lss 3 18 17])
 (.seq (.cond (T 19) .skip
 (.exit 0 (some [1])))
 (.seq (.block 1 (.seq (Rg [1,16,17,18] [Ix 20 1 16 18,Ro 21 (.load1 .slice (T 20)),As 4 21])
 (.seq (Rg [1,4,16,17,18] [Mv 22 4,Ro 23 (.lenS (T 22)),Bc 24 .gtr 3 23 .i64 4])
 (.cond (T 24) (.seq (Rg [] [Ac 2 4])
 .ret)
 .skip))))
 (Rg [1,16,17,18] [Bc 25 .add 3 18 .i64 1,Mv 18 25])))⟩),(12,⟨none,some [1,48,49,50],.seq (Rg [1,48,49,50] [Bt 51 .lss 3 50 49])
 (.seq (.cond (T 51) .skip
 (.exit 2 (some [1])))
 (.seq (.block 3 (.seq (Rg [1,48,49,50] [Ix 52 1 48 50,Ro 53 (.load1 .slice (T 52)),As 6 53])
 (.seq (.seq (Rg [1,6,48,49,50] [Mv 54 6,Ro 55 (.lenS (T 54)),Fa 56 0 1,Ro 57 (.load1 .slice (T 56)),Ro 58 (.ixS 1 (T 57) (Ci 0)),Ro 59 (.load1 .slice (T 58)),Ro 60 (.lenS (T 59)),Bt 61 .neq 3 55 60])
 (.cond (T 61) (.seq (Rg [] [Ac 2 8])
 .ret)
 .skip))
 (.seq (Rg [1,6,48,49,50] [Mv 62 6,Ro 63 (.lenS (T 62)),Ol 64 (.move (Ci 0))])
 (.block 4 (.loop 17 none (some [1,48,49,50,62,63,64])))))))
 (Rg [1,48,49,50] [Bc 75 .add 3 50 .i64 1,Mv 50 75])))⟩),(17,⟨none,some [1,48,49,50,62,63,64],.seq (Rg [1,48,49,50,62,63,64] [Bt 65 .lss 3 64 63])
 (.seq (.cond (T 65) .skip
 (.exit 4 (some [1,48,49,50])))
 (.seq (.block 5 (.seq (Rg [1,48,49,50,62,63,64] [Ix 66 1 62 64,L1 67 66,As 8 67])
 (.seq (Rg [1,8,48,49,50,62,63,64] [Mv 68 8,Ol 69 (.binOp .lss 3 (T 68) (.const (.int .i64 (-9))) 3),Mv 70 69,Gf 71 70 (.move (T 8)),Gf 72 70 (.binOp .gtr 3 (T 71) (Ci 9) 3),Ol 73 (.pick (T 70) (.const (.bool true)) (T 72))])
 (.cond (T 73) (.seq (Rg [] [Ac 2 8])
 .ret)
 .skip))))
 (Rg [1,48,49,50,62,63,64] [Bc 74 .add 3 64 .i64 1,Mv 64 74])))⟩),(24,⟨some [77,78,79],some [77,78,79],.seq (Rg [77,78,79] [Bt 80 .lss 3 79 78])
 (.seq (.cond (T 80) .skip
 (.exit 6 (some [])))
 (.seq (.block 7 (.seq (Rg [77,78,79] [Ix 81 2 77 79,Ld 82 81,Nw 10 2 z2,Sr 2 10 82])
 (.seq (Rg [10,77,78,79] [Ld 83 10,Ca 84 31 [T 83] vB,Ol 85 (.unOp .not 4 (T 84)),Mv 86 85,Hf 87 86 (.fieldAddr 1 (T 10)),Hf 88 86 (.load1 (.int .i64) (T 87)),Gf 89 86 (.binOp .gtr 2 (T 88) (Ci 60) 2),Ol 90 (.pick (T 86) (.const (.bool true)) (T 89))])
 (.cond (T 90) (.seq (Rg [] [Ac 2 8])
 .ret)
 .skip))))
 (Rg [77,78,79] [Bc 91 .add 3 79 .i64 1,Mv 79 91])))⟩)],
 []⟩
theorem r12_ok:resFun (progU ()) hint live 12 Try.f12=some r12:=by kernel_rfl
def r13 : RFun :=
⟨.seq (Rg [0] [Bo 1 2 0,Ac 2 0])
 (.seq (.seq (Rg [1] [Fa 6 0 1,Ro 7 (.load1 .slice (T 6)),Ro 8 (.lenS (T 7)),Bc 9 .gtr 3 8 .i64 4])
 (.cond (T 9) (.seq (Rg [] [Ac 2 4])
 .ret)
 .skip))
 (.seq (.seq (Rg [1] [Ac 3 0])
 (.block 0 (.loop 4 none (some [1,3]))))
 (.seq (.seq (Rg [1] [Fa 24 0 1,Ro 25 (.load1 .slice (T 24)),Ro 26 (.lenS (T 25)),Bc 27 .eql 3 26 .i64 0,Mv 28 27,Hf 29 28 (.fieldAddr 0 (T 1)),Hf 30 28 (.load1 .slice (T 29)),Hf 31 28 (.ixS 1 (T 30) (Ci 0)),Hf 32 28 (.load1 .slice (T 31)),Hf 33 28 (.lenS (T 32)),Gf 34 28 (.binOp .eql 3 (T 33) (Ci 0) 3),Ol 35 (.pick (T 28) (.const (.bool true)) (T 34)),Mv 36 35,Hf 37 36 (.fieldAddr 1 (T 1)),Hf 38 36 (.load1 .slice (T 37)),Hf 39 36 (.lenS (T 38)),Hf 40 36 (.fieldAddr 0 (T 1)),Hf 41 36 (.load1 .slice (T 40)),Hf 42 36 (.lenS (T 41)),Gf 43 36 (.binOp .neq 3 (T 39) (T 42) 3),Ol 44 (.pick (T 36) (.const (.bool true)) (T 43))])
 (.cond (T 44) (.seq (Rg [] [Ac 2 8])
 .ret)
 .skip))
 (.seq (.seq (Rg [1] [Ac 4 0])
 (.block 2 (.loop 11 (some [1,4]) (some [1,4]))))
 (.seq (Rg [] [Ac 2 0])
 .ret))))),
 [.tmp 2],
 [(4,⟨none,some [1,3],.seq (.seq (Rg [1,3] [Mv 10 3,Fa 11 0 1,Ro 12 (.load1 .slice (T 11)),Ro 13 (.lenS (T 12)),Bt 14 .lss 3 10 13])
 (.cond (T 14) .skip
 (.exit 0 (some [1]))))
 (.seq (.block 1 (.seq (Rg [1,3] [Fa 17 0 1,Ro 18 (.load1 .slice (T 17)),Mv 19 3,Ix 20 1 18 19,Ro 21 (.load1 .slice (T 20)),Ro 22 (.lenS (T 21)),Bc 23 .gtr 3 22 .i64 4])
 (.cond (T 23) (.seq (Rg [] [Ac 2 4])
 .ret)
 .skip)))
 (Rg [1,3] [Mv 15 3,Bc 16 .add 3 15 .i64 1,As 3 16]))⟩),(11,⟨some [1,4],some [1,4],.seq (.seq (Rg [1,4] [Mv 45 4,Fa 46 0 1,Ro 47 (.load1 .slice (T 46)),Ro 48 (.lenS (T 47)),Bt 49 .lss 3 45 48])
 (.cond (T 49) .skip
 (.exit 2 (some []))))
 (.seq (.block 3 (.seq (.seq (.draw (some [1,4]) 30 [Dr (Fa 52 0 1) 0 [1,3,4,5,11,12,13,14,15,16,17,18,19,20,21,22,23,24,25,26,27,28,29],Db (Ro 53 (.load1 .slice (T 52))) 1 52 [3,4,5,11,12,13,14,15,16,17,18,19,20,21,22,23,24,25,26,27,28,29],Dr (Mv 54 4) 2 [3,4,5,11,12,13,14,15,16,17,18,19,20,21,22,23,24,25,26,27,28,29],Dr (Ix 55 1 53 54) 3 [4,5,11,12,13,14,15,16,17,18,19,20,21,22,23,24,25,26,27,28,29],Db (Ro 56 (.load1 .slice (T 55))) 4 55 [5,11,12,13,14,15,16,17,18,19,20,21,22,23,24,25,26,27,28,29],Dr (Ro 57 (.lenS (T 56))) 5 [11,12,13,14,15,16,17,18,19,20,21,22,23,24,25,26,27,28,29],Dr (Fa 58 0 1) 6 [7,8,9,10,11,12,13,14,15,16,17,18,19,20,21,22,23,24,25,26,27,28,29],Db (Ro 59 (.load1 .slice (T 58))) 7 58 [8,9,10,11,12,13,14,15,16,17,18,19,20,21,22,23,24,25,26,27,28,29],Dr (Ro 60 (.ixS 1 (T 59) (Ci 0))) 8 [9,10,11,12,13,14,15,16,17,18,19,20,21,22,23,24,25,26,27,28,29],Db (Ro 61 (.load1 .slice (T 60))) 9 60 [10,11,12,13,14,15,16,17,18,19,20,21,22,23,24,25,26,27,28,29],Dr (Ro 62 (.lenS (T 61))) 10 [11,12,13,14,15,16,17,18,19,20,21,22,23,24,25,26,27,28,29],Dr (Bt 63 .neq 3 57 62) 11 [12,13,14,15,16,17,18,19,20,21,22,23,24,25,26,27,28,29],Dr (Mv 64 63) 12 [13,14,15,16,17,18,19,20,21,22,23,24,25,26,27,28,29],⟨Hf 65 64 (.fieldAddr 1 (T 1)),13,.none,[14,16,17,18,19,20,21,22,23,24,25,26,27,28,29],false,true⟩,⟨Hf 66 64 (.load1 .slice (T 65)),14,.blk (T 65),[16,17,18,19,20,21,22,23,24,25,26,27,28,29],false,true⟩,⟨Gf 67 64 (.move (T 4)),15,.none,[16,17,18,19,20,21,22,23,24,25,26,27,28,29],false,true⟩,⟨Hf 68 64 (.ixS 2 (T 66) (T 67)),16,.none,[17,18,19,20,21,22,23,24,25,26,27,28,29],false,true⟩,⟨Hf 69 64 (.load 2 s2 (T 68)),17,.blk (T 68),[18,19,20,21,22,23,24,25,26,27,28,29],false,true⟩,⟨⟨some 70,some (64,false),.call (.func 32) [T 69] vB⟩,18,.all,[19,20,21,22,23,24,25,26,27,28,29],false,false⟩,⟨Gf 71 64 (.unOp .not 4 (T 70)),19,.none,[20,21,22,23,24,25,26,27,28,29],false,true⟩,Dr (Ol 72 (.pick (T 64) (.const (.bool true)) (T 71))) 20 [21,22,23,24,25,26,27,28,29],Dr (Mv 73 72) 21 [22,23,24,25,26,27,28,29],⟨Hf 74 73 (.fieldAddr 1 (T 1)),22,.none,[23,25,26,27,28,29],false,true⟩,⟨Hf 75 73 (.load1 .slice (T 74)),23,.blk (T 74),[25,26,27,28,29],false,true⟩,⟨Gf 76 73 (.move (T 4)),24,.none,[25,26,27,28,29],false,true⟩,⟨Hf 77 73 (.ixS 2 (T 75) (T 76)),25,.none,[26,27,28,29],false,true⟩,⟨Hf 78 73 (.fieldAddr 1 (T 77)),26,.none,[27,28,29],false,true⟩,⟨Hf 79 73 (.load1 (.int .i64) (T 78)),27,.blk (T 78),[28,29],false,true⟩,⟨Gf 80 73 (.binOp .gtr 2 (T 79) (Ci 60) 2),28,.none,[29],false,true⟩,Dr (Ol 81 (.pick (T 73) (.const (.bool true)) (T 80))) 29 []])
 (.cond (T 81) (.seq (Rg [] [Ac 2 8])
 .ret)
 .skip))
 (.seq (Rg [1,4] [Ac 5 0])
 (.block 4 (.loop 16 none (some [1,4,5]))))))
 (Rg [1,4] [Mv 50 4,Bc 51 .add 3 50 .i64 1,As 4 51]))⟩),(16,⟨none,some [1,4,5],.seq (.seq (Rg [1,4,5] [Mv 82 5,Fa 83 0 1,Ro 84 (.load1 .slice (T 83)),Mv 85 4,Ix 86 1 84 85,Ro 87 (.load1 .slice (T 86)),Ro 88 (.lenS (T 87)),Bt 89 .lss 3 82 88])
 (.cond (T 89) .skip
 (.exit 4 (some [1,4]))))
 (.seq (.block 5 (.seq (Rg [1,4,5] [Fa 92 0 1,Ro 93 (.load1 .slice (T 92)),Mv 94 4,Ix 95 1 93 94,Ro 96 (.load1 .slice (T 95)),Mv 97 5,Ix 98 1 96 97,L1 99 98,Ol 100 (.binOp .lss 3 (T 99) (.const (.int .i64 (-9))) 3),Mv 101 100,Hf 102 101 (.fieldAddr 0 (T 1)),Hf 103 101 (.load1 .slice (T 102)),Gf 104 101 (.move (T 4)),Hf 105 101 (.ixS 1 (T 103) (T 104)),Hf 106 101 (.load1 .slice (T 105)),Gf 107 101 (.move (T 5)),Hf 108 101 (.ixS 1 (T 106) (T 107)),Hf 109 101 (.load1 (.int .i64) (T 108)),Gf 110 101 (.binOp .gtr 3 (T 109) (Ci 9) 3),Ol 111 (.pick (T 101) (.const (.bool true)) (T 110))])
 (.cond (T 111) (.seq (Rg [] [Ac 2 8])
 .ret)
 .skip)))
 (Rg [1,4,5] [Mv 90 5,Bc 91 .add 3 90 .i64 1,As 5 91]))⟩)],
 []⟩
theorem r13_ok:resFun (progU ()) hint live 13 Try.f13=some r13:=by kernel_rfl
def r17 : RFun :=
⟨.seq (Rg [0] [Bo 1 2 0,Ol 2 (.assign (.const (.bool false))),Ac 3 0])
 (.seq (.seq (Rg [1] [Ro 5 (.load 2 [.slice,.slice] (T 1)),Ca 6 12 [T 5] vI,As 4 6])
 (.seq (Rg [1,4] [Mv 7 4,Bc 8 .neq 28 7 .i64 0])
 (.cond (T 8) (.seq (Rg [4] [Mv 9 4,Ol 2 (.assign (.const (.bool false))),As 3 9])
 .ret)
 .skip)))
 (.seq (Rg [1] [Ro 10 (.load 2 [.slice,.slice] (T 1)),Ca 11 34 [T 10] vB,As 2 11,Ac 3 0])
 .ret)),
 [.tmp 2,.tmp 3],
 [],
 []⟩
theorem r17_ok:resFun (progU ()) hint live 17 Try.f17=some r17:=by kernel_rfl
