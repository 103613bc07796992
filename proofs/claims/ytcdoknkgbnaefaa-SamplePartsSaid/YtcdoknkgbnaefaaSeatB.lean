import Derived.Test.YtcdoknkgbnaefaaSeat0
import Derived.Test.YtcdoknkgbnaefaaSymS
set_option linter.unusedSimpArgs false
set_option linter.unusedVariables false
namespace Go.Proofs.Ytcdoknkgbnaefaa
open Go.Sim
set_option maxRecDepth 100000
def r9 : RFun :=
⟨.seq (.reg (some []) [Ol 0 (.assign (.const (.bool false)))])
 (.seq (.reg (some []) [Ro 45 (.build [.int .i64 0,.int .i64 0] [(0,1,(.const (.int .i64 1))),(1,1,(.const (.int .i64 1)))]),⟨some 1,none,.op true (.new 2 [.int .i64 0,.int .i64 0])⟩,⟨none,none,.op false (.store 2 (.tmp 1) (.tmp 45))⟩])
 (.seq (.reg (some [1]) [Ro 46 (.mkSlice 1 [.int .i64 0] (.const (.int .i64 257)) (.const (.int .i64 257))),Ca 47 23 [.tmp 46] (some (.val (.one (.int .i64)))),Bc 48 .eql 25 47 .i64 4,Mv 49 48,⟨some 50,some (49,true),.op false (.mkSlice 1 [.int .i64 0] (.const (.int .i64 256)) (.const (.int .i64 256)))⟩,⟨some 51,some (49,true),.call (.func 23) [.tmp 50] (some (.val (.one (.int .i64))))⟩,⟨some 52,some (49,true),.op false (.old (.binOp .eql 25 (.tmp 51) (.const (.int .i64 0)) 25))⟩,Ol 53 (.pick (.tmp 49) (.tmp 52) (.const (.bool false))),Mv 54 53,⟨some 55,some (54,true),.op false (.buildSlice 1 1 [.int .i64 0] [(0,1,(.const (.int .i64 2)))])⟩,⟨some 56,some (54,true),.call (.func 23) [.tmp 55] (some (.val (.one (.int .i64))))⟩,⟨some 57,some (54,true),.op false (.old (.binOp .eql 25 (.tmp 56) (.const (.int .i64 8)) 25))⟩,Ol 58 (.pick (.tmp 54) (.tmp 57) (.const (.bool false))),Mv 59 58,⟨some 60,some (59,true),.op false (.buildSlice 1 1 [.int .i64 0] [(0,1,(.const (.int .i64 (-4))))])⟩,⟨some 61,some (59,true),.call (.func 23) [.tmp 60] (some (.val (.one (.int .i64))))⟩,⟨some 62,some (59,true),.op false (.old (.binOp .eql 25 (.tmp 61) (.const (.int .i64 8)) 25))⟩,Ol 63 (.pick (.tmp 59) (.tmp 62) (.const (.bool false))),As 2 63])
 (.seq (.reg (some [1,2]) [Ro 65 (.mkSlice 1 [.int .i64 0] (.const (.int .i64 257)) (.const (.int .i64 257))),Ca 66 25 [.tmp 65,.const (.int .i64 1)] (some (.tup [.one .slice,.one (.int .i64)])),Mv 64 66,Ex 67 64 0,Ex 68 64 1,As 3 67,As 4 68])
 (.seq (.reg (some [1,2,4]) [Ro 70 (.buildSlice 1 1 [.int .i64 0] [(0,1,(.const (.int .i64 1000001)))]),Ca 71 25 [.tmp 70,.const (.int .i64 1)] (some (.tup [.one .slice,.one (.int .i64)])),Mv 69 71,Ex 72 69 0,Ex 73 69 1,As 5 72,As 6 73])
 (.seq (.reg (some [1,2,4,6]) [Ca 75 34 [] (some (.val (.one .slice))),Ca 76 25 [.tmp 75,.const (.int .i64 0)] (some (.tup [.one .slice,.one (.int .i64)])),Mv 74 76,Ex 77 74 0,Ex 78 74 1,As 7 77,As 8 78])
 (.seq (.reg (some [1,2,4,6,8]) [Ca 80 34 [] (some (.val (.one .slice))),Ca 81 25 [.tmp 80,.const (.int .i64 1000001)] (some (.tup [.one .slice,.one (.int .i64)])),Mv 79 81,Ex 82 79 0,Ex 83 79 1,As 9 82,As 10 83])
 (.seq (.reg (some [1,2,4,6,8,10]) [Ca 85 34 [] (some (.val (.one .slice))),Ro 86 (.build [.int .i64 0,.int .i64 0] [(0,1,(.const (.int .i64 2))),(1,1,(.const (.int .i64 1)))]),Ca 87 27 [.tmp 85,.tmp 86] (some (.tup [.one (.int .i64),.one (.int .i64)])),Mv 84 87,Ex 88 84 0,Ex 89 84 1,As 11 88,As 12 89])
 (.seq (.reg (some [1,2,4,6,8,10,12]) [Ca 91 34 [] (some (.val (.one .slice))),Ro 92 (.build [.int .i64 0,.int .i64 0] [(0,1,(.const (.int .i64 (-1)))),(1,1,(.const (.int .i64 2)))]),Ca 93 27 [.tmp 91,.tmp 92] (some (.tup [.one (.int .i64),.one (.int .i64)])),Mv 90 93,Ex 94 90 0,Ex 95 90 1,As 13 94,As 14 95])
 (.seq (.reg (some [1,2,4,6,8,10,12,14]) [Ca 97 34 [] (some (.val (.one .slice))),Ro 98 (.build [.int .i64 0,.int .i64 0] [(0,1,(.const (.int .i64 2))),(1,1,(.const (.int .i64 4)))]),Ca 99 27 [.tmp 97,.tmp 98] (some (.tup [.one (.int .i64),.one (.int .i64)])),Mv 96 99,Ex 100 96 0,Ex 101 96 1,As 15 100,As 16 101])
 (.seq (.reg (some [1,2,4,6,8,10,12,14,16]) [Ro 103 (.buildSlice 1 1 [.int .i64 0] [(0,1,(.const (.int .i64 1000000)))]),Ld 104 1,Ca 105 27 [.tmp 103,.tmp 104] (some (.tup [.one (.int .i64),.one (.int .i64)])),Mv 102 105,Ex 106 102 0,Ex 107 102 1,As 17 106,As 18 107])
 (.seq (.reg (some [1,2,4,6,8,10,12,14,16,18]) [Ro 109 (.buildSlice 1 1 [.int .i64 0] [(0,1,(.const (.int .i64 (-999999))))]),Ld 110 1,Ca 111 27 [.tmp 109,.tmp 110] (some (.tup [.one (.int .i64),.one (.int .i64)])),Mv 108 111,Ex 112 108 0,Ex 113 108 1,As 19 112,As 20 113])
 (.seq (.reg (some [1,2,4,6,8,10,12,14,16,18,19,20]) [Ca 115 34 [] (some (.val (.one .slice))),Ro 116 (.build [.int .i64 0,.int .i64 0] [(1,1,(.const (.int .i64 1)))]),Ca 117 27 [.tmp 115,.tmp 116] (some (.tup [.one (.int .i64),.one (.int .i64)])),Mv 114 117,Ex 118 114 0,Ex 119 114 1,As 21 118,As 22 119])
 (.seq (.reg (some [1,2,4,6,8,10,12,14,16,18,19,20,21,22]) [Ld 121 1,Ca 122 27 [.const (.slice none 0 0),.tmp 121] (some (.tup [.one (.int .i64),.one (.int .i64)])),Mv 120 122,Ex 123 120 0,Ex 124 120 1,As 23 123,As 24 124])
 (.seq (.reg (some [2,4,6,8,10,12,14,16,18,19,20,21,22,23,24]) [Ca 126 13 [.const (.slice none 0 0),.const (.int .i64 (-1))] (some (.tup [.one .slice,.one (.int .i64)])),Mv 125 126,Ex 127 125 0,Ex 128 125 1,As 25 127,As 26 128])
 (.seq (.reg (some [2,4,6,8,10,12,14,16,18,19,20,21,22,23,24,26]) [Ca 130 13 [.const (.slice none 0 0),.const (.int .i64 257)] (some (.tup [.one .slice,.one (.int .i64)])),Mv 129 130,Ex 131 129 0,Ex 132 129 1,As 27 131,As 28 132])
 (.seq (.reg (some [2,4,6,8,10,12,14,16,18,19,20,21,22,23,24,26,28]) [Ro 134 (.buildSlice 1 1 [.int .u8 0] [(0,1,(.const (.int .u8 0)))]),Ca 135 13 [.tmp 134,.const (.int .i64 4)] (some (.tup [.one .slice,.one (.int .i64)])),Mv 133 135,Ex 136 133 0,Ex 137 133 1,As 29 136,As 30 137])
 (.seq (.reg (some [2,4,6,8,10,12,14,16,18,19,20,21,22,23,24,26,28,30]) [Ro 139 (.buildSlice 1 1 [.int .u8 0] [(0,1,(.const (.int .u8 125)))]),Ca 140 13 [.tmp 139,.const (.int .i64 3)] (some (.tup [.one .slice,.one (.int .i64)])),Mv 138 140,Ex 141 138 0,Ex 142 138 1,As 31 141,As 32 142])
 (.seq (.reg (some [2,4,6,8,10,12,14,16,18,19,20,21,22,23,24,26,28,30,32]) [Ro 144 (.buildSlice 1 1 [.int .u8 0] [(0,1,(.const (.int .u8 5)))]),Ca 145 13 [.tmp 144,.const (.int .i64 1)] (some (.tup [.one .slice,.one (.int .i64)])),Mv 143 145,Ex 146 143 0,Ex 147 143 1,As 33 146,As 34 147])
 (.seq (.reg (some [2,4,6,8,10,12,14,16,18,19,20,21,22,23,24,26,28,30,32,34]) [Ro 149 (.buildSlice 1 2 [.int .u8 0,.int .u8 0] [(0,1,(.const (.int .u8 124))),(1,1,(.const (.int .u8 1)))]),Ca 150 13 [.tmp 149,.const (.int .i64 4)] (some (.tup [.one .slice,.one (.int .i64)])),Mv 148 150,Ex 151 148 0,Ex 152 148 1,As 35 151,As 36 152])
 (.seq (.reg (some [2,4,6,8,10,12,14,16,18,19,20,21,22,23,24,26,28,30,32,34,35,36]) [Ca 154 13 [.const (.slice none 0 0),.const (.int .i64 0)] (some (.tup [.one .slice,.one (.int .i64)])),Mv 153 154,Ex 155 153 0,Ex 156 153 1,As 37 155,As 38 156])
 (.seq (.reg (some [2,4,6,8,10,12,14,16,18,19,20,21,22,23,24,26,28,30,32,34,35,36,37,38]) [Ro 158 (.buildSlice 1 3 [.int .i64 0,.int .i64 0,.int .i64 0] [(0,1,(.const (.int .i64 (-1000000)))),(1,1,(.const (.int .i64 1000000))),(2,1,(.const (.int .i64 (-1))))]),Ca 159 25 [.tmp 158,.const (.int .i64 1000000)] (some (.tup [.one .slice,.one (.int .i64)])),Mv 157 159,Ex 160 157 0,Ex 161 157 1,As 39 160,As 40 161])
 (.seq (.reg (some [2,4,6,8,10,12,14,16,18,19,20,21,22,23,24,26,28,30,32,34,35,36,37,38,39,40]) [Ro 163 (.buildSlice 1 2 [.int .i64 0,.int .i64 0] [(0,1,(.const (.int .i64 0))),(1,1,(.const (.int .i64 1)))]),Ca 164 17 [.tmp 163] (some (.tup [.one (.int .i64),.one (.int .i64)])),Mv 162 164,Ex 165 162 0,Ex 166 162 1,As 41 165,As 42 166])
 (.seq (.reg (some [2,4,6,8,10,12,14,16,18,19,20,21,22,23,24,26,28,30,32,34,35,36,37,38,39,40,41,42]) [Ro 168 (.buildSlice 1 1 [.int .i64 0] [(0,1,(.const (.int .i64 5)))]),Ca 169 11 [.tmp 168] (some (.tup [.one .slice,.one (.int .i64)])),Mv 167 169,Ex 170 167 0,Ex 171 167 1,As 43 170,As 44 171])
 (.seq (.reg (some [2,4,6,8,10,12,14,16,18,19,20,21,22,23,24,26,28,30,32,34,35,36,37,38,39,40,41,42,44]) [Ol 172 (.move (.const (.bool true))),⟨some 173,some (172,true),.call (.func 29) [] (some (.val (.one .bool)))⟩,Ol 174 (.pick (.tmp 172) (.tmp 173) (.const (.bool false))),Mv 175 174,⟨some 176,some (175,true),.op false (.old (.move (.tmp 2)))⟩,Ol 177 (.pick (.tmp 175) (.tmp 176) (.const (.bool false))),Mv 178 177,⟨some 179,some (178,true),.op false (.old (.move (.tmp 4)))⟩,⟨some 180,some (178,true),.op false (.old (.binOp .eql 25 (.tmp 179) (.const (.int .i64 4)) 25))⟩,Ol 181 (.pick (.tmp 178) (.tmp 180) (.const (.bool false))),Mv 182 181,⟨some 183,some (182,true),.op false (.old (.move (.tmp 6)))⟩,⟨some 184,some (182,true),.op false (.old (.binOp .eql 25 (.tmp 183) (.const (.int .i64 8)) 25))⟩,Ol 185 (.pick (.tmp 182) (.tmp 184) (.const (.bool false))),Mv 186 185,⟨some 187,some (186,true),.op false (.old (.move (.tmp 8)))⟩,⟨some 188,some (186,true),.op false (.old (.binOp .eql 25 (.tmp 187) (.const (.int .i64 2)) 25))⟩,Ol 189 (.pick (.tmp 186) (.tmp 188) (.const (.bool false))),Mv 190 189,⟨some 191,some (190,true),.op false (.old (.move (.tmp 10)))⟩,⟨some 192,some (190,true),.op false (.old (.binOp .eql 25 (.tmp 191) (.const (.int .i64 2)) 25))⟩,Ol 193 (.pick (.tmp 190) (.tmp 192) (.const (.bool false))),Mv 194 193,⟨some 195,some (194,true),.op false (.old (.move (.tmp 12)))⟩,⟨some 196,some (194,true),.op false (.old (.binOp .eql 25 (.tmp 195) (.const (.int .i64 8)) 25))⟩,Ol 197 (.pick (.tmp 194) (.tmp 196) (.const (.bool false))),Mv 198 197,⟨some 199,some (198,true),.op false (.old (.move (.tmp 14)))⟩,⟨some 200,some (198,true),.op false (.old (.binOp .eql 25 (.tmp 199) (.const (.int .i64 8)) 25))⟩,Ol 201 (.pick (.tmp 198) (.tmp 200) (.const (.bool false))),Mv 202 201,⟨some 203,some (202,true),.op false (.old (.move (.tmp 16)))⟩,⟨some 204,some (202,true),.op false (.old (.binOp .eql 25 (.tmp 203) (.const (.int .i64 8)) 25))⟩,Ol 205 (.pick (.tmp 202) (.tmp 204) (.const (.bool false))),Mv 206 205,⟨some 207,some (206,true),.op false (.old (.move (.tmp 18)))⟩,⟨some 208,some (206,true),.op false (.old (.binOp .eql 25 (.tmp 207) (.const (.int .i64 6)) 25))⟩,Ol 209 (.pick (.tmp 206) (.tmp 208) (.const (.bool false))),Mv 210 209,⟨some 211,some (210,true),.op false (.old (.move (.tmp 20)))⟩,⟨some 212,some (210,true),.op false (.old (.binOp .eql 25 (.tmp 211) (.const (.int .i64 0)) 25))⟩,Ol 213 (.pick (.tmp 210) (.tmp 212) (.const (.bool false))),Mv 214 213,⟨some 215,some (214,true),.op false (.old (.move (.tmp 19)))⟩,⟨some 216,some (214,true),.op false (.old (.binOp .eql 3 (.tmp 215) (.const (.int .i64 1000000)) 3))⟩,Ol 217 (.pick (.tmp 214) (.tmp 216) (.const (.bool false))),Mv 218 217,⟨some 219,some (218,true),.op false (.old (.move (.tmp 22)))⟩,⟨some 220,some (218,true),.op false (.old (.binOp .eql 25 (.tmp 219) (.const (.int .i64 0)) 25))⟩,Ol 221 (.pick (.tmp 218) (.tmp 220) (.const (.bool false))),Mv 222 221,⟨some 223,some (222,true),.op false (.old (.move (.tmp 21)))⟩,⟨some 224,some (222,true),.op false (.old (.binOp .eql 3 (.tmp 223) (.const (.int .i64 1)) 3))⟩,Ol 225 (.pick (.tmp 222) (.tmp 224) (.const (.bool false))),Mv 226 225,⟨some 227,some (226,true),.op false (.old (.move (.tmp 24)))⟩,⟨some 228,some (226,true),.op false (.old (.binOp .eql 25 (.tmp 227) (.const (.int .i64 0)) 25))⟩,Ol 229 (.pick (.tmp 226) (.tmp 228) (.const (.bool false))),Mv 230 229,⟨some 231,some (230,true),.op false (.old (.move (.tmp 23)))⟩,⟨some 232,some (230,true),.op false (.old (.binOp .eql 3 (.tmp 231) (.const (.int .i64 1)) 3))⟩,Ol 233 (.pick (.tmp 230) (.tmp 232) (.const (.bool false))),Mv 234 233,⟨some 235,some (234,true),.op false (.old (.move (.tmp 26)))⟩,⟨some 236,some (234,true),.op false (.old (.binOp .eql 25 (.tmp 235) (.const (.int .i64 2)) 25))⟩,Ol 237 (.pick (.tmp 234) (.tmp 236) (.const (.bool false))),Mv 238 237,⟨some 239,some (238,true),.op false (.old (.move (.tmp 28)))⟩,⟨some 240,some (238,true),.op false (.old (.binOp .eql 25 (.tmp 239) (.const (.int .i64 2)) 25))⟩,Ol 241 (.pick (.tmp 238) (.tmp 240) (.const (.bool false))),Mv 242 241,⟨some 243,some (242,true),.op false (.old (.move (.tmp 30)))⟩,⟨some 244,some (242,true),.op false (.old (.binOp .eql 25 (.tmp 243) (.const (.int .i64 12)) 25))⟩,Ol 245 (.pick (.tmp 242) (.tmp 244) (.const (.bool false))),Mv 246 245,⟨some 247,some (246,true),.op false (.old (.move (.tmp 32)))⟩,⟨some 248,some (246,true),.op false (.old (.binOp .eql 25 (.tmp 247) (.const (.int .i64 12)) 25))⟩,Ol 249 (.pick (.tmp 246) (.tmp 248) (.const (.bool false))),Mv 250 249,⟨some 251,some (250,true),.op false (.old (.move (.tmp 34)))⟩,⟨some 252,some (250,true),.op false (.old (.binOp .eql 25 (.tmp 251) (.const (.int .i64 12)) 25))⟩,Ol 253 (.pick (.tmp 250) (.tmp 252) (.const (.bool false))),Mv 254 253,⟨some 255,some (254,true),.op false (.old (.move (.tmp 36)))⟩,⟨some 256,some (254,true),.op false (.old (.binOp .eql 25 (.tmp 255) (.const (.int .i64 0)) 25))⟩,Ol 257 (.pick (.tmp 254) (.tmp 256) (.const (.bool false))),Mv 258 257,⟨some 259,some (258,true),.op false (.old (.move (.tmp 35)))⟩,⟨some 260,some (258,true),.op false (.buildSlice 1 4 [.int .i64 0,.int .i64 0,.int .i64 0,.int .i64 0] [(0,1,(.const (.int .i64 3))),(1,1,(.const (.int .i64 3))),(2,1,(.const (.int .i64 3))),(3,1,(.const (.int .i64 (-3))))])⟩,⟨some 261,some (258,true),.call (.func 16) [.tmp 259,.tmp 260] (some (.val (.one .bool)))⟩,Ol 262 (.pick (.tmp 258) (.tmp 261) (.const (.bool false))),Mv 263 262,⟨some 264,some (263,true),.op false (.old (.move (.tmp 38)))⟩,⟨some 265,some (263,true),.op false (.old (.binOp .eql 25 (.tmp 264) (.const (.int .i64 0)) 25))⟩,Ol 266 (.pick (.tmp 263) (.tmp 265) (.const (.bool false))),Mv 267 266,⟨some 268,some (267,true),.op false (.old (.move (.tmp 37)))⟩,⟨some 269,some (267,true),.op false (.lenS (.tmp 268))⟩,⟨some 270,some (267,true),.op false (.old (.binOp .eql 3 (.tmp 269) (.const (.int .i64 0)) 3))⟩,Ol 271 (.pick (.tmp 267) (.tmp 270) (.const (.bool false))),Mv 272 271,⟨some 273,some (272,true),.op false (.old (.move (.tmp 40)))⟩,⟨some 274,some (272,true),.op false (.old (.binOp .eql 25 (.tmp 273) (.const (.int .i64 0)) 25))⟩,Ol 275 (.pick (.tmp 272) (.tmp 274) (.const (.bool false))),Mv 276 275,⟨some 277,some (276,true),.op false (.old (.move (.tmp 39)))⟩,⟨some 278,some (276,true),.op false (.buildSlice 1 3 [.int .i64 0,.int .i64 0,.int .i64 0] [(0,1,(.const (.int .i64 (-3)))),(1,1,(.const (.int .i64 3))),(2,1,(.const (.int .i64 (-1))))])⟩,⟨some 279,some (276,true),.call (.func 16) [.tmp 277,.tmp 278] (some (.val (.one .bool)))⟩,Ol 280 (.pick (.tmp 276) (.tmp 279) (.const (.bool false))),Mv 281 280,⟨some 282,some (281,true),.op false (.old (.move (.tmp 42)))⟩,⟨some 283,some (281,true),.op false (.old (.binOp .eql 25 (.tmp 282) (.const (.int .i64 0)) 25))⟩,Ol 284 (.pick (.tmp 281) (.tmp 283) (.const (.bool false))),Mv 285 284,⟨some 286,some (285,true),.op false (.old (.move (.tmp 41)))⟩,⟨some 287,some (285,true),.op false (.old (.binOp .eql 3 (.tmp 286) (.const (.int .i64 1)) 3))⟩,Ol 288 (.pick (.tmp 285) (.tmp 287) (.const (.bool false))),Mv 289 288,⟨some 290,some (289,true),.op false (.old (.move (.tmp 44)))⟩,⟨some 291,some (289,true),.op false (.old (.binOp .eql 25 (.tmp 290) (.const (.int .i64 8)) 25))⟩,Ol 292 (.pick (.tmp 289) (.tmp 291) (.const (.bool false))),As 0 292])
 .ret)))))))))))))))))))))))),
 [.tmp 0],
 [],
 []⟩
def r10 : RFun :=
⟨.seq (.reg (some [0]) [Ol 2 (.assign (.const (.bool false)))])
 (.seq (.reg (some [0]) [Mv 3 0,Ro 4 (.lenS (.tmp 3)),Bc 5 .gtr 3 4 .i64 300,As 2 5])
 .ret),
 [.tmp 2],
 [],
 []⟩
theorem r10_ok : resFun (progU ()) hint live 10 Try.f10 = some r10:=by kernel_rfl
def r19 : RFun :=
⟨.seq (.reg (some [0]) [⟨some 2,none,.op true (.new 5 [.int .i64 0,.int .i64 0,.int .i64 0,.int .i64 0,.int .i64 0])⟩,Ac 3 0])
 (.seq (.seq (.reg (some [0,2]) [Mv 8 0,Ca 9 23 [.tmp 8] (some (.val (.one (.int .i64)))),As 4 9])
 (.seq (.reg (some [0,2,4]) [Mv 10 4,Bc 11 .neq 25 10 .i64 0])
 (.cond (.tmp 11) (.seq (.reg (some [2,4]) [Ro 12 (.build [.int .i64 0,.int .i64 0,.int .i64 0,.int .i64 0,.int .i64 0] []),Mv 13 4,⟨none,none,.op false (.store 5 (.tmp 2) (.tmp 12))⟩,As 3 13])
 .ret)
 .skip)))
 (.seq (.reg (some [0,2]) [Ro 5 (.new 5 [.int .i64 0,.int .i64 0,.int .i64 0,.int .i64 0,.int .i64 0])])
 (.seq (.seq (.reg (some [0,2,5]) [Mv 14 0,Ro 15 (.lenS (.tmp 14)),Ol 16 (.move (.const (.int .i64 0)))])
 (.block 0 (.loop 6 none (some [2,5,14,15,16]))))
 (.seq (.reg (some [2,5]) [Ro 27 (.load 5 [.int .i64,.int .i64,.int .i64,.int .i64,.int .i64] (.tmp 5)),⟨none,none,.op false (.store 5 (.tmp 2) (.tmp 27))⟩,Ac 3 0])
 .ret)))),
 [.agg 2 5 [.int .i64,.int .i64,.int .i64,.int .i64,.int .i64],.tmp 3],
 [(6,⟨none,some [2,5,14,15,16],.seq (.reg (some [2,5,14,15,16]) [Bt 17 .lss 3 16 15])
 (.seq (.cond (.tmp 17) .skip
 (.exit 0 (some [2,5])))
 (.seq (.block 1 (.seq (.reg (some [2,5,14,15,16]) [Ix 18 1 14 16,L1 19 18,As 7 19])
 (.reg (some [2,5,7,14,15,16]) [Mv 20 7,Ca 21 36 [.tmp 20] (some (.val (.one (.int .i64)))),Ro 22 (.ixA 5 1 (.tmp 5) (.tmp 21)),L1 23 22,Bc 24 .add 3 23 .i64 1,Ro 25 (.ixA 5 1 (.tmp 5) (.tmp 21)),⟨none,none,.op false (.store 1 (.tmp 25) (.tmp 24))⟩])))
 (.reg (some [2,5,14,15,16]) [Bc 26 .add 3 16 .i64 1,Mv 16 26])))⟩)],
 []⟩
theorem r19_ok : resFun (progU ()) hint live 19 Try.f19 = some r19:=by kernel_rfl
def r22 : RFun :=
⟨.seq (.reg (some [0]) [Ol 2 (.assign (.const (.slice none 0 0))),Ac 3 0])
 (.seq (.seq (.reg (some [0]) [Mv 6 0,Ca 7 24 [.tmp 6] (some (.val (.one (.int .i64)))),Bc 8 .neq 3 7 .i64 0])
 (.cond (.tmp 8) (.seq (.reg (some [0]) [Mv 9 0,Ca 10 24 [.tmp 9] (some (.val (.one (.int .i64)))),Ol 2 (.assign (.const (.slice none 0 0))),As 3 10])
 .ret)
 .skip))
 (.seq (.reg (some [0]) [Ol 4 (.assign (.const (.slice none 0 0)))])
 (.seq (.seq (.reg (some [0,4]) [Ac 5 0])
 (.block 0 (.loop 5 none (some [0,4,5]))))
 (.seq (.reg (some [4]) [Mv 38 4,As 2 38,Ac 3 0])
 .ret)))),
 [.tmp 2,.tmp 3],
 [(5,⟨none,some [0,4,5],.seq (.seq (.reg (some [0,4,5]) [Mv 11 5,Mv 12 0,Ro 13 (.lenS (.tmp 12)),Bt 14 .lss 3 11 13])
 (.cond (.tmp 14) .skip
 (.exit 0 (some [4]))))
 (.seq (.block 1 (.block 2 (.seq (.reg (some [0,4,5]) [Mv 21 0,Mv 22 5,Ix 23 1 21 22,L1 24 23,Bc 25 .lss 3 24 .i64 0,As 20 25])
 (.cond (.tmp 20) (.reg (some [0,4,5]) [Mv 26 4,Ro 27 (.buildSlice 1 1 [.int .i64 0] [(0,1,(.const (.int .i64 (-1))))]),⟨some 28,none,.op false (.old (.call ⟨.builtin .append,#[.tmp 26,.tmp 27],#[22,22]⟩))⟩,As 4 28])
 (.seq (.reg (some [0,4,5]) [Mv 30 0,Mv 31 5,Ix 32 1 30 31,L1 33 32,Bc 34 .gtr 3 33 .i64 0,As 29 34])
 (.cond (.tmp 29) (.reg (some [0,4,5]) [Mv 35 4,Ro 36 (.buildSlice 1 1 [.int .i64 0] [(0,1,(.const (.int .i64 1)))]),⟨some 37,none,.op false (.old (.call ⟨.builtin .append,#[.tmp 35,.tmp 36],#[22,22]⟩))⟩,As 4 37])
 (.reg (some [0,4,5]) [Mv 17 4,Ro 18 (.buildSlice 1 1 [.int .i64 0] [(0,1,(.const (.int .i64 0)))]),⟨some 19,none,.op false (.old (.call ⟨.builtin .append,#[.tmp 17,.tmp 18],#[22,22]⟩))⟩,As 4 19])))))))
 (.reg (some [0,4,5]) [Mv 15 5,Bc 16 .add 3 15 .i64 1,As 5 16]))⟩)],
 []⟩
theorem r22_ok : resFun (progU ()) hint live 22 Try.f22 = some r22:=by kernel_rfl
def r23 : RFun :=
⟨.seq (.reg (some [0]) [Ac 2 0])
 (.seq (.seq (.reg (some [0]) [Mv 5 0,Ro 6 (.lenS (.tmp 5)),Bc 7 .gtr 3 6 .i64 256])
 (.cond (.tmp 7) (.seq (.reg (some []) [Ac 2 4])
 .ret)
 .skip))
 (.seq (.seq (.reg (some [0]) [Mv 8 0,Ro 9 (.lenS (.tmp 8)),Ol 10 (.move (.const (.int .i64 0)))])
 (.block 0 (.loop 4 none (some [8,9,10]))))
 (.seq (.reg (some []) [Ac 2 0])
 .ret))),
 [.tmp 2],
 [(4,⟨none,some [8,9,10],.seq (.reg (some [8,9,10]) [Bt 11 .lss 3 10 9])
 (.seq (.cond (.tmp 11) .skip
 (.exit 0 (some [])))
 (.seq (.block 1 (.seq (.reg (some [8,9,10]) [Ix 12 1 8 10,L1 13 12,As 4 13])
 (.seq (.reg (some [4,8,9,10]) [Mv 14 4,Ca 15 36 [.tmp 14] (some (.val (.one (.int .i64)))),Bc 16 .lss 3 15 .i64 0])
 (.cond (.tmp 16) (.seq (.reg (some []) [Ac 2 8])
 .ret)
 .skip))))
 (.reg (some [8,9,10]) [Bc 17 .add 3 10 .i64 1,Mv 10 17])))⟩)],
 []⟩
theorem r23_ok : resFun (progU ()) hint live 23 Try.f23 = some r23:=by kernel_rfl
def r24 : RFun :=
⟨.seq (.reg (some [0]) [Ac 2 0])
 (.seq (.seq (.reg (some [0]) [Mv 4 0,Ro 5 (.lenS (.tmp 4)),Bc 6 .gtr 3 5 .i64 256])
 (.cond (.tmp 6) (.seq (.reg (some []) [Ac 2 4])
 .ret)
 .skip))
 (.seq (.seq (.reg (some [0]) [Ac 3 0])
 (.block 0 (.loop 4 none (some [0,3]))))
 (.seq (.reg (some []) [Ac 2 0])
 .ret))),
 [.tmp 2],
 [(4,⟨none,some [0,3],.seq (.seq (.reg (some [0,3]) [Mv 7 3,Mv 8 0,Ro 9 (.lenS (.tmp 8)),Bt 10 .lss 3 7 9])
 (.cond (.tmp 10) .skip
 (.exit 0 (some []))))
 (.seq (.block 1 (.seq (.reg (some [0,3]) [Mv 13 0,Mv 14 3,Ix 15 1 13 14,L1 16 15,Ca 17 37 [.tmp 16] (some (.val (.one (.int .i64)))),Bc 18 .lss 3 17 .i64 0])
 (.cond (.tmp 18) (.seq (.reg (some []) [Ac 2 8])
 .ret)
 .skip)))
 (.reg (some [0,3]) [Mv 11 3,Bc 12 .add 3 11 .i64 1,As 3 12]))⟩)],
 []⟩
theorem r24_ok : resFun (progU ()) hint live 24 Try.f24 = some r24:=by kernel_rfl
def r25 : RFun :=
⟨.seq (.reg (some [0,1]) [Ol 4 (.assign (.const (.slice none 0 0))),Ac 5 0])
 (.seq (.seq (.reg (some [0,1]) [Mv 10 0,Ca 11 39 [.tmp 10] (some (.val (.one (.int .i64)))),As 6 11])
 (.seq (.reg (some [0,1,6]) [Mv 12 6,Bc 13 .neq 25 12 .i64 0])
 (.cond (.tmp 13) (.seq (.reg (some [6]) [Mv 14 6,Ol 4 (.assign (.const (.slice none 0 0))),As 5 14])
 .ret)
 .skip)))
 (.seq (.seq (.reg (some [0,1]) [Mv 15 1,Bc 16 .lss 3 15 .i64 1,Mv 17 16,⟨some 18,some (17,false),.op false (.old (.move (.tmp 1)))⟩,⟨some 19,some (17,false),.op false (.old (.binOp .gtr 3 (.tmp 18) (.const (.int .i64 1000000)) 3))⟩,Ol 20 (.pick (.tmp 17) (.const (.bool true)) (.tmp 19))])
 (.cond (.tmp 20) (.seq (.reg (some []) [Ol 4 (.assign (.const (.slice none 0 0))),Ac 5 2])
 .ret)
 .skip))
 (.seq (.reg (some [0,1]) [Mv 21 0,Ro 22 (.lenS (.tmp 21)),Ro 23 (.mkSlice 1 [.int .i64 0] (.tmp 22) (.tmp 22)),As 7 23])
 (.seq (.seq (.reg (some [0,1,7]) [Mv 24 0,Ro 25 (.lenS (.tmp 24)),Ol 26 (.move (.const (.int .i64 0)))])
 (.block 0 (.loop 8 none (some [1,7,24,25,26]))))
 (.seq (.reg (some [7]) [Mv 54 7,As 4 54,Ac 5 0])
 .ret))))),
 [.tmp 4,.tmp 5],
 [(8,⟨none,some [1,7,24,25,26],.seq (.reg (some [1,7,24,25,26]) [Bt 27 .lss 3 26 25])
 (.seq (.cond (.tmp 27) .skip
 (.exit 0 (some [7])))
 (.seq (.block 1 (.seq (.reg (some [1,7,24,25,26]) [Mv 28 26,Ix 29 1 24 26,L1 30 29,As 8 28,As 9 30])
 (.seq (.reg (some [1,7,8,9,24,25,26]) [Mv 31 7,Mv 32 8,Ix 33 1 31 32,⟨none,none,.op false (.store 1 (.tmp 33) (.const (.int .i64 1)))⟩])
 (.seq (.seq (.reg (some [1,7,8,9,24,25,26]) [Mv 34 9,Mv 35 9,Ol 36 (.unOp .neg 3 (.tmp 35)),⟨some 37,none,.op false (.old (.call ⟨.builtin .max,#[.tmp 34,.tmp 36],#[3,3]⟩))⟩,Mv 38 1,Bt 39 .geq 3 37 38])
 (.cond (.tmp 39) (.reg (some [1,7,8,9,24,25,26]) [Mv 40 7,Mv 41 8,Ix 42 1 40 41,⟨none,none,.op false (.store 1 (.tmp 42) (.const (.int .i64 3)))⟩])
 .skip))
 (.seq (.reg (some [1,7,8,9,24,25,26]) [Mv 43 9,Bc 44 .lss 3 43 .i64 0])
 (.cond (.tmp 44) (.reg (some [1,7,8,24,25,26]) [Mv 45 7,Mv 46 8,Mv 47 7,Mv 48 8,Ix 49 1 47 48,L1 50 49,Ol 51 (.unOp .neg 3 (.tmp 50)),Ix 52 1 45 46,⟨none,none,.op false (.store 1 (.tmp 52) (.tmp 51))⟩])
 .skip))))))
 (.reg (some [1,7,24,25,26]) [Bc 53 .add 3 26 .i64 1,Mv 26 53])))⟩)],
 []⟩
theorem r25_ok : resFun (progU ()) hint live 25 Try.f25 = some r25:=by kernel_rfl
def r26 : RFun :=
⟨.seq (.reg (some [0,1]) [Ol 4 (.assign (.const (.slice none 0 0))),Ac 5 0])
 (.seq (.seq (.reg (some [0,1]) [Mv 8 0,Ca 9 30 [.tmp 8] (some (.val (.one (.int .i64)))),Bc 10 .neq 3 9 .i64 0])
 (.cond (.tmp 10) (.seq (.reg (some [0]) [Mv 11 0,Ca 12 30 [.tmp 11] (some (.val (.one (.int .i64)))),Ol 4 (.assign (.const (.slice none 0 0))),As 5 12])
 .ret)
 .skip))
 (.seq (.seq (.reg (some [0,1]) [Mv 13 1,Bc 14 .lss 3 13 .i64 1,Mv 15 14,⟨some 16,some (15,false),.op false (.old (.move (.tmp 1)))⟩,⟨some 17,some (15,false),.op false (.old (.binOp .gtr 3 (.tmp 16) (.const (.int .i64 1000000)) 3))⟩,Ol 18 (.pick (.tmp 15) (.const (.bool true)) (.tmp 17))])
 (.cond (.tmp 18) (.seq (.reg (some []) [Ol 4 (.assign (.const (.slice none 0 0))),Ac 5 2])
 .ret)
 .skip))
 (.seq (.reg (some [0,1]) [Ol 6 (.assign (.const (.slice none 0 0)))])
 (.seq (.seq (.reg (some [0,1,6]) [Ac 7 0])
 (.block 0 (.loop 7 none (some [0,1,6,7]))))
 (.seq (.reg (some [6]) [Mv 58 6,As 4 58,Ac 5 0])
 .ret))))),
 [.tmp 4,.tmp 5],
 [(7,⟨none,some [0,1,6,7],.seq (.seq (.reg (some [0,1,6,7]) [Mv 19 7,Mv 20 0,Ro 21 (.lenS (.tmp 20)),Bt 22 .lss 3 19 21])
 (.cond (.tmp 22) .skip
 (.exit 0 (some [6]))))
 (.seq (.block 1 (.block 2 (.seq (.reg (some [0,1,6,7]) [Mv 29 0,Mv 30 7,Ix 31 1 29 30,L1 32 31,Mv 33 1,Ol 34 (.unOp .neg 3 (.tmp 33)),Bt 35 .leq 3 32 34,As 28 35])
 (.cond (.tmp 28) (.reg (some [0,1,6,7]) [Mv 36 6,Ro 37 (.buildSlice 1 1 [.int .i64 0] [(0,1,(.const (.int .i64 (-3))))]),⟨some 38,none,.op false (.old (.call ⟨.builtin .append,#[.tmp 36,.tmp 37],#[22,22]⟩))⟩,As 6 38])
 (.seq (.reg (some [0,1,6,7]) [Mv 40 0,Mv 41 7,Ix 42 1 40 41,L1 43 42,Bc 44 .lss 3 43 .i64 0,As 39 44])
 (.cond (.tmp 39) (.reg (some [0,1,6,7]) [Mv 45 6,Ro 46 (.buildSlice 1 1 [.int .i64 0] [(0,1,(.const (.int .i64 (-1))))]),⟨some 47,none,.op false (.old (.call ⟨.builtin .append,#[.tmp 45,.tmp 46],#[22,22]⟩))⟩,As 6 47])
 (.seq (.reg (some [0,1,6,7]) [Mv 49 0,Mv 50 7,Ix 51 1 49 50,L1 52 51,Mv 53 1,Bt 54 .lss 3 52 53,As 48 54])
 (.cond (.tmp 48) (.reg (some [0,1,6,7]) [Mv 55 6,Ro 56 (.buildSlice 1 1 [.int .i64 0] [(0,1,(.const (.int .i64 1)))]),⟨some 57,none,.op false (.old (.call ⟨.builtin .append,#[.tmp 55,.tmp 56],#[22,22]⟩))⟩,As 6 57])
 (.reg (some [0,1,6,7]) [Mv 25 6,Ro 26 (.buildSlice 1 1 [.int .i64 0] [(0,1,(.const (.int .i64 3)))]),⟨some 27,none,.op false (.old (.call ⟨.builtin .append,#[.tmp 25,.tmp 26],#[22,22]⟩))⟩,As 6 27])))))))))
 (.reg (some [0,1,6,7]) [Mv 23 7,Bc 24 .add 3 23 .i64 1,As 7 24]))⟩)],
 []⟩
theorem r26_ok : resFun (progU ()) hint live 26 Try.f26 = some r26:=by kernel_rfl
end Go.Proofs.Ytcdoknkgbnaefaa
