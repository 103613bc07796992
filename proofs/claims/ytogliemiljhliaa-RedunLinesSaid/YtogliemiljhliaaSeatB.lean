import Derived.Test.YtogliemiljhliaaSeat0
import Derived.Test.YtogliemiljhliaaSymS
set_option linter.unusedSimpArgs false
set_option linter.unusedVariables false
namespace Go.Proofs.Ytogliemiljhliaa
open Go.Sim
set_option maxRecDepth 100000
def r8 : RFun :=
⟨.seq (.reg (some []) [Ol 0 (.assign (.const (.bool false)))])
 (.seq (.reg (some []) [Ro 36 (.buildSlice 1 1 [.int .i64 0] [(0,1,(.const (.int .i64 3)))]),Ro 37 (.buildSlice 1 2 [.int .i64 0,.int .i64 0] [(0,1,(.const (.int .i64 1))),(1,1,(.const (.int .i64 1)))]),Ro 38 (.buildSlice 1 2 [.int .i64 0,.int .i64 0] [(0,1,(.const (.int .i64 2))),(1,1,(.const (.int .i64 1)))]),Ro 39 (.buildSlice 1 2 [.int .i64 0,.int .i64 0] [(0,1,(.const (.int .i64 (-1)))),(1,1,(.const (.int .i64 1)))]),Ro 40 (.buildSlice 1 2 [.int .i64 0,.int .i64 0] [(0,1,(.const (.int .i64 0))),(1,1,(.const (.int .i64 32)))]),Ro 41 (.buildSlice 1 6 [.slice none 0 0,.slice none 0 0,.slice none 0 0,.slice none 0 0,.slice none 0 0,.slice none 0 0] [(0,1,(.const (.slice none 0 0))),(1,1,(.tmp 36)),(2,1,(.tmp 37)),(3,1,(.tmp 38)),(4,1,(.tmp 39)),(5,1,(.tmp 40))]),As 1 41])
 (.seq (.seq (.reg (some [1]) [Ac 2 0])
 (.block 0 (.loop 3 none (some [1,2]))))
 (.seq (.reg (some []) [Ro 66 (.mkSlice 1 [.int .i64 0] (.const (.int .i64 6)) (.const (.int .i64 6))),Ca 67 18 [.tmp 66] (some (.val (.one (.int .i64)))),As 5 67])
 (.seq (.reg (some [5]) [Ro 68 (.buildSlice 1 2 [.int .i64 0,.int .i64 0] [(0,1,(.const (.int .i64 4))),(1,1,(.const (.int .i64 31)))]),As 6 68])
 (.seq (.reg (some [5,6]) [Mv 70 6,Ca 71 10 [.tmp 70] (some (.tup [.one .slice,.one (.int .i64)])),Mv 69 71,Ex 72 69 0,Ex 73 69 1,As 7 72,As 8 73])
 (.seq (.reg (some [5,6,7,8]) [Mv 75 6,Ca 76 14 [.tmp 75] (some (.tup [.one .slice,.one (.int .i64)])),Mv 74 76,Ex 77 74 0,Ex 78 74 1,As 9 77,As 10 78])
 (.seq (.reg (some [5,6,7,8,9,10]) [Mv 80 6,Ca 81 16 [.tmp 80] (some (.tup [.one .bool,.one (.int .i64)])),Mv 79 81,Ex 82 79 0,Ex 83 79 1,As 11 82,As 12 83])
 (.seq (.reg (some [5,6,7,8,9,10,11,12]) [Mv 85 6,Ro 86 (.buildSlice 1 1 [.int .i64 0] [(0,1,(.const (.int .i64 100)))]),Ca 87 27 [.tmp 85,.tmp 86] (some (.tup [.one .slice,.one .slice,.one (.int .i64)])),Mv 84 87,Ex 88 84 0,Ex 89 84 1,Ex 90 84 2,As 13 88,As 14 89,As 15 90])
 (.seq (.reg (some [5,6,7,8,9,10,11,12,15]) [Mv 92 6,Ca 93 27 [.tmp 92,.const (.slice none 0 0)] (some (.tup [.one .slice,.one .slice,.one (.int .i64)])),Mv 91 93,Ex 94 91 0,Ex 95 91 1,Ex 96 91 2,As 16 94,As 17 95,As 18 96])
 (.seq (.reg (some [5,6,7,8,9,10,11,12,15,18]) [Ro 98 (.buildSlice 1 4 [.int .i64 0,.int .i64 0,.int .i64 0,.int .i64 0] [(0,1,(.const (.int .i64 0))),(1,1,(.const (.int .i64 1))),(2,1,(.const (.int .i64 2))),(3,1,(.const (.int .i64 3)))]),Ro 99 (.buildSlice 1 6 [.int .i64 0,.int .i64 0,.int .i64 0,.int .i64 0,.int .i64 0,.int .i64 0] [(0,1,(.const (.int .i64 0))),(1,1,(.const (.int .i64 0))),(2,1,(.const (.int .i64 0))),(3,1,(.const (.int .i64 0))),(4,1,(.const (.int .i64 0))),(5,1,(.const (.int .i64 1)))]),Ca 100 27 [.tmp 98,.tmp 99] (some (.tup [.one .slice,.one .slice,.one (.int .i64)])),Mv 97 100,Ex 101 97 0,Ex 102 97 1,Ex 103 97 2,As 19 101,As 20 102,As 21 103])
 (.seq (.reg (some [5,6,7,8,9,10,11,12,15,18,21]) [Ca 104 24 [.const (.int .i64 1),.const (.int .i64 1)] (some (.val (.agg [.int .i64,.int .i64]))),Ro 105 (.buildSlice 2 1 [.int .i64 0,.int .i64 0] [(0,2,(.tmp 104))]),As 22 105])
 (.seq (.reg (some [5,6,7,8,9,10,11,12,15,18,21,22]) [Mv 107 6,Mv 108 22,Mv 109 22,Ca 110 30 [.tmp 107,.tmp 108,.tmp 109] (some (.tup [.one .slice,.one (.int .i64)])),Mv 106 110,Ex 111 106 0,Ex 112 106 1,As 23 111,As 24 112])
 (.seq (.reg (some [5,6,7,8,9,10,11,12,15,18,21,22,24]) [Mv 114 6,Mv 115 22,Ca 116 24 [.const (.int .i64 1),.const (.int .i64 1)] (some (.val (.agg [.int .i64,.int .i64]))),Ro 117 (.buildSlice 2 1 [.int .i64 0,.int .i64 0] [(0,2,(.tmp 116))]),⟨some 118,none,.op false (.old (.call ⟨.builtin .append,#[.tmp 115,.tmp 117],#[50,50]⟩))⟩,Ca 119 30 [.tmp 114,.tmp 118,.const (.slice none 0 0)] (some (.tup [.one .slice,.one (.int .i64)])),Mv 113 119,Ex 120 113 0,Ex 121 113 1,As 25 120,As 26 121])
 (.seq (.reg (some [5,6,7,8,9,10,11,12,15,18,21,22,24,26]) [Mv 123 6,Mv 124 22,Ca 125 24 [.const (.int .i64 1),.const (.int .i64 1001)] (some (.val (.agg [.int .i64,.int .i64]))),Ro 126 (.buildSlice 2 1 [.int .i64 0,.int .i64 0] [(0,2,(.tmp 125))]),⟨some 127,none,.op false (.old (.call ⟨.builtin .append,#[.tmp 124,.tmp 126],#[50,50]⟩))⟩,Mv 128 22,Ca 129 30 [.tmp 123,.tmp 127,.tmp 128] (some (.tup [.one .slice,.one (.int .i64)])),Mv 122 129,Ex 130 122 0,Ex 131 122 1,As 27 130,As 28 131])
 (.seq (.reg (some [5,6,7,8,9,10,11,12,15,18,21,22,24,26,28]) [Mv 133 6,Mv 134 22,Ca 135 24 [.const (.int .i64 1000001),.const (.int .i64 1)] (some (.val (.agg [.int .i64,.int .i64]))),Ro 136 (.buildSlice 2 1 [.int .i64 0,.int .i64 0] [(0,2,(.tmp 135))]),⟨some 137,none,.op false (.old (.call ⟨.builtin .append,#[.tmp 134,.tmp 136],#[50,50]⟩))⟩,Mv 138 22,Ca 139 30 [.tmp 133,.tmp 137,.tmp 138] (some (.tup [.one .slice,.one (.int .i64)])),Mv 132 139,Ex 140 132 0,Ex 141 132 1,As 29 140,As 30 141])
 (.seq (.reg (some [5,6,7,8,9,10,11,12,15,18,21,22,24,26,28,30]) [Mv 143 6,Mv 144 22,Ca 145 24 [.const (.int .i64 2),.const (.int .i64 2)] (some (.val (.agg [.int .i64,.int .i64]))),Ro 146 (.buildSlice 2 1 [.int .i64 0,.int .i64 0] [(0,2,(.tmp 145))]),⟨some 147,none,.op false (.old (.call ⟨.builtin .append,#[.tmp 144,.tmp 146],#[50,50]⟩))⟩,Mv 148 22,Ca 149 30 [.tmp 143,.tmp 147,.tmp 148] (some (.tup [.one .slice,.one (.int .i64)])),Mv 142 149,Ex 150 142 0,Ex 151 142 1,As 31 150,As 32 151])
 (.seq (.reg (some [5,6,7,8,9,10,11,12,15,18,21,24,26,28,30,32]) [Mv 153 6,Ca 154 24 [.const (.int .i64 3),.const (.int .i64 1)] (some (.val (.agg [.int .i64,.int .i64]))),Ca 155 24 [.const (.int .i64 1),.const (.int .i64 2)] (some (.val (.agg [.int .i64,.int .i64]))),Ro 156 (.buildSlice 2 2 [.int .i64 0,.int .i64 0,.int .i64 0,.int .i64 0] [(0,2,(.tmp 154)),(2,2,(.tmp 155))]),Ca 157 24 [.const (.int .i64 1),.const (.int .i64 1000)] (some (.val (.agg [.int .i64,.int .i64]))),Ro 158 (.buildSlice 2 1 [.int .i64 0,.int .i64 0] [(0,2,(.tmp 157))]),Ca 159 30 [.tmp 153,.tmp 156,.tmp 158] (some (.tup [.one .slice,.one (.int .i64)])),Mv 152 159,Ex 160 152 0,Ex 161 152 1,As 33 160,As 34 161])
 (.seq (.reg (some [5,7,8,9,10,11,12,15,18,21,24,26,28,30,32,33,34]) [Ol 162 (.move (.const (.bool true))),⟨some 163,some (162,true),.call (.func 23) [] (some (.val (.one .bool)))⟩,Ol 164 (.pick (.tmp 162) (.tmp 163) (.const (.bool false))),Mv 165 164,⟨some 166,some (165,true),.op false (.old (.move (.tmp 5)))⟩,⟨some 167,some (165,true),.op false (.old (.binOp .eql 23 (.tmp 166) (.const (.int .i64 4)) 23))⟩,Ol 168 (.pick (.tmp 165) (.tmp 167) (.const (.bool false))),Mv 169 168,⟨some 170,some (169,true),.op false (.old (.move (.tmp 8)))⟩,⟨some 171,some (169,true),.op false (.old (.binOp .eql 23 (.tmp 170) (.const (.int .i64 0)) 23))⟩,Ol 172 (.pick (.tmp 169) (.tmp 171) (.const (.bool false))),Mv 173 172,⟨some 174,some (173,true),.op false (.old (.move (.tmp 7)))⟩,⟨some 175,some (173,true),.op false (.buildSlice 1 1 [.int .i64 0] [(0,1,(.const (.int .i64 27)))])⟩,⟨some 176,some (173,true),.call (.func 20) [.tmp 174,.tmp 175] (some (.val (.one .bool)))⟩,Ol 177 (.pick (.tmp 173) (.tmp 176) (.const (.bool false))),Mv 178 177,⟨some 179,some (178,true),.op false (.old (.move (.tmp 10)))⟩,⟨some 180,some (178,true),.op false (.old (.binOp .eql 23 (.tmp 179) (.const (.int .i64 0)) 23))⟩,Ol 181 (.pick (.tmp 178) (.tmp 180) (.const (.bool false))),Mv 182 181,⟨some 183,some (182,true),.op false (.old (.move (.tmp 9)))⟩,⟨some 184,some (182,true),.call (.func 24) [.const (.int .i64 1),.const (.int .i64 1)] (some (.val (.agg [.int .i64,.int .i64])))⟩,⟨some 185,some (182,true),.call (.func 24) [.const (.int .i64 1),.const (.int .i64 1)] (some (.val (.agg [.int .i64,.int .i64])))⟩,⟨some 186,some (182,true),.call (.func 24) [.const (.int .i64 0),.const (.int .i64 1)] (some (.val (.agg [.int .i64,.int .i64])))⟩,⟨some 187,some (182,true),.op false (.buildSlice 2 3 [.int .i64 0,.int .i64 0,.int .i64 0,.int .i64 0,.int .i64 0,.int .i64 0] [(0,2,(.tmp 184)),(2,2,(.tmp 185)),(4,2,(.tmp 186))])⟩,⟨some 188,some (182,true),.call (.func 24) [.const (.int .i64 (-1)),.const (.int .i64 1)] (some (.val (.agg [.int .i64,.int .i64])))⟩,⟨some 189,some (182,true),.call (.func 24) [.const (.int .i64 0),.const (.int .i64 1)] (some (.val (.agg [.int .i64,.int .i64])))⟩,⟨some 190,some (182,true),.call (.func 24) [.const (.int .i64 1),.const (.int .i64 1)] (some (.val (.agg [.int .i64,.int .i64])))⟩,⟨some 191,some (182,true),.op false (.buildSlice 2 3 [.int .i64 0,.int .i64 0,.int .i64 0,.int .i64 0,.int .i64 0,.int .i64 0] [(0,2,(.tmp 188)),(2,2,(.tmp 189)),(4,2,(.tmp 190))])⟩,⟨some 192,some (182,true),.op false (.buildSlice 1 2 [.slice none 0 0,.slice none 0 0] [(0,1,(.tmp 187)),(1,1,(.tmp 191))])⟩,⟨some 193,some (182,true),.call (.func 22) [.tmp 183,.tmp 192] (some (.val (.one .bool)))⟩,Ol 194 (.pick (.tmp 182) (.tmp 193) (.const (.bool false))),Mv 195 194,⟨some 196,some (195,true),.op false (.old (.move (.tmp 12)))⟩,⟨some 197,some (195,true),.op false (.old (.binOp .eql 23 (.tmp 196) (.const (.int .i64 0)) 23))⟩,Ol 198 (.pick (.tmp 195) (.tmp 197) (.const (.bool false))),Mv 199 198,⟨some 200,some (199,true),.op false (.old (.move (.tmp 11)))⟩,Ol 201 (.pick (.tmp 199) (.tmp 200) (.const (.bool false))),As 35 201])
 (.seq (.reg (some [15,18,21,24,26,28,30,32,33,34,35]) [Mv 202 35,Mv 203 202,⟨some 204,some (203,true),.op false (.old (.move (.tmp 15)))⟩,⟨some 205,some (203,true),.op false (.old (.binOp .eql 23 (.tmp 204) (.const (.int .i64 2)) 23))⟩,Ol 206 (.pick (.tmp 203) (.tmp 205) (.const (.bool false))),Mv 207 206,⟨some 208,some (207,true),.op false (.old (.move (.tmp 18)))⟩,⟨some 209,some (207,true),.op false (.old (.binOp .eql 23 (.tmp 208) (.const (.int .i64 2)) 23))⟩,Ol 210 (.pick (.tmp 207) (.tmp 209) (.const (.bool false))),Mv 211 210,⟨some 212,some (211,true),.op false (.old (.move (.tmp 21)))⟩,⟨some 213,some (211,true),.op false (.old (.binOp .eql 23 (.tmp 212) (.const (.int .i64 6)) 23))⟩,Ol 214 (.pick (.tmp 211) (.tmp 213) (.const (.bool false))),Mv 215 214,⟨some 216,some (215,true),.op false (.old (.move (.tmp 24)))⟩,⟨some 217,some (215,true),.op false (.old (.binOp .eql 23 (.tmp 216) (.const (.int .i64 2)) 23))⟩,Ol 218 (.pick (.tmp 215) (.tmp 217) (.const (.bool false))),Mv 219 218,⟨some 220,some (219,true),.op false (.old (.move (.tmp 26)))⟩,⟨some 221,some (219,true),.op false (.old (.binOp .eql 23 (.tmp 220) (.const (.int .i64 2)) 23))⟩,Ol 222 (.pick (.tmp 219) (.tmp 221) (.const (.bool false))),Mv 223 222,⟨some 224,some (223,true),.op false (.old (.move (.tmp 28)))⟩,⟨some 225,some (223,true),.op false (.old (.binOp .eql 23 (.tmp 224) (.const (.int .i64 2)) 23))⟩,Ol 226 (.pick (.tmp 223) (.tmp 225) (.const (.bool false))),Mv 227 226,⟨some 228,some (227,true),.op false (.old (.move (.tmp 30)))⟩,⟨some 229,some (227,true),.op false (.old (.binOp .eql 23 (.tmp 228) (.const (.int .i64 2)) 23))⟩,Ol 230 (.pick (.tmp 227) (.tmp 229) (.const (.bool false))),Mv 231 230,⟨some 232,some (231,true),.op false (.old (.move (.tmp 32)))⟩,⟨some 233,some (231,true),.op false (.old (.binOp .eql 23 (.tmp 232) (.const (.int .i64 2)) 23))⟩,Ol 234 (.pick (.tmp 231) (.tmp 233) (.const (.bool false))),Mv 235 234,⟨some 236,some (235,true),.op false (.old (.move (.tmp 34)))⟩,⟨some 237,some (235,true),.op false (.old (.binOp .eql 23 (.tmp 236) (.const (.int .i64 0)) 23))⟩,Ol 238 (.pick (.tmp 235) (.tmp 237) (.const (.bool false))),Mv 239 238,⟨some 240,some (239,true),.op false (.old (.move (.tmp 33)))⟩,⟨some 241,some (239,true),.call (.func 24) [.const (.int .i64 2501),.const (.int .i64 1000)] (some (.val (.agg [.int .i64,.int .i64])))⟩,⟨some 242,some (239,true),.op false (.buildSlice 2 1 [.int .i64 0,.int .i64 0] [(0,2,(.tmp 241))])⟩,⟨some 243,some (239,true),.call (.func 28) [.tmp 240,.tmp 242] (some (.val (.one .bool)))⟩,Ol 244 (.pick (.tmp 239) (.tmp 243) (.const (.bool false))),As 0 244])
 .ret))))))))))))))))))),
 [.tmp 0],
 [(3,⟨none,some [1,2],.seq (.seq (.reg (some [1,2]) [Mv 42 2,Mv 43 1,Ro 44 (.lenS (.tmp 43)),Bt 45 .lss 3 42 44])
 (.cond (.tmp 45) .skip
 (.exit 0 (some []))))
 (.seq (.block 1 (.seq (.reg (some [1,2]) [Mv 49 1,Mv 50 2,Ix 51 1 49 50,Ro 52 (.load1 .slice (.tmp 51)),Ca 53 14 [.tmp 52] (some (.tup [.one .slice,.one (.int .i64)])),Mv 48 53,Ex 54 48 0,Ex 55 48 1,As 3 54,As 4 55])
 (.seq (.reg (some [1,2,4]) [Mv 56 1,Mv 57 2,Ix 58 1 56 57,Ro 59 (.load1 .slice (.tmp 58)),Ca 60 18 [.tmp 59] (some (.val (.one (.int .i64)))),Bc 61 .neq 23 60 .i64 8,Mv 62 61,⟨some 63,some (62,false),.op false (.old (.move (.tmp 4)))⟩,⟨some 64,some (62,false),.op false (.old (.binOp .neq 23 (.tmp 63) (.const (.int .i64 8)) 23))⟩,Ol 65 (.pick (.tmp 62) (.const (.bool true)) (.tmp 64))])
 (.cond (.tmp 65) (.seq (.reg (some []) [Ol 0 (.assign (.const (.bool false)))])
 .ret)
 .skip))))
 (.reg (some [1,2]) [Mv 46 2,Bc 47 .add 3 46 .i64 1,As 2 47]))⟩)],
 []⟩
def r10 : RFun :=
⟨.seq (.reg (some [0]) [Ol 2 (.assign (.const (.slice none 0 0))),Ac 3 0])
 (.seq (.seq (.reg (some [0]) [Mv 5 0,Ca 6 18 [.tmp 5] (some (.val (.one (.int .i64)))),As 4 6])
 (.seq (.reg (some [0,4]) [Mv 7 4,Bc 8 .neq 23 7 .i64 0])
 (.cond (.tmp 8) (.seq (.reg (some [4]) [Mv 9 4,Ol 2 (.assign (.const (.slice none 0 0))),As 3 9])
 .ret)
 .skip)))
 (.seq (.reg (some [0]) [Mv 10 0,Ca 11 35 [.tmp 10] (some (.val (.one .slice))),As 2 11,Ac 3 0])
 .ret)),
 [.tmp 2,.tmp 3],
 [],
 []⟩
theorem r10_ok : resFun (progU ()) hint live 10 Try.f10 = some r10:=by kernel_rfl
def r11 : RFun :=
⟨.seq (.reg (some [0]) [Ol 2 (.assign (.const (.slice none 0 0))),Ac 3 0])
 (.seq (.seq (.reg (some [0]) [Mv 4 0,Ca 5 19 [.tmp 4] (some (.val (.one (.int .i64)))),Bc 6 .neq 3 5 .i64 0])
 (.cond (.tmp 6) (.seq (.reg (some [0]) [Mv 7 0,Ca 8 19 [.tmp 7] (some (.val (.one (.int .i64)))),Ol 2 (.assign (.const (.slice none 0 0))),As 3 8])
 .ret)
 .skip))
 (.seq (.reg (some [0]) [Mv 9 0,Ca 10 36 [.tmp 9] (some (.val (.one .slice))),As 2 10,Ac 3 0])
 .ret)),
 [.tmp 2,.tmp 3],
 [],
 []⟩
theorem r11_ok : resFun (progU ()) hint live 11 Try.f11 = some r11:=by kernel_rfl
def r12 : RFun :=
⟨.seq (.reg (some [0]) [Ol 2 (.assign (.const (.slice none 0 0))),Ac 3 0])
 (.seq (.seq (.reg (some [0]) [Mv 5 0,Ca 6 18 [.tmp 5] (some (.val (.one (.int .i64)))),As 4 6])
 (.seq (.reg (some [0,4]) [Mv 7 4,Bc 8 .neq 23 7 .i64 0])
 (.cond (.tmp 8) (.seq (.reg (some [4]) [Mv 9 4,Ol 2 (.assign (.const (.slice none 0 0))),As 3 9])
 .ret)
 .skip)))
 (.seq (.reg (some [0]) [Mv 10 0,Ca 11 37 [.tmp 10] (some (.val (.one .slice))),As 2 11,Ac 3 0])
 .ret)),
 [.tmp 2,.tmp 3],
 [],
 []⟩
theorem r12_ok : resFun (progU ()) hint live 12 Try.f12 = some r12:=by kernel_rfl
def r13 : RFun :=
⟨.seq (.reg (some [0]) [Ol 2 (.assign (.const (.slice none 0 0))),Ac 3 0])
 (.seq (.seq (.reg (some [0]) [Mv 4 0,Ca 5 19 [.tmp 4] (some (.val (.one (.int .i64)))),Bc 6 .neq 3 5 .i64 0])
 (.cond (.tmp 6) (.seq (.reg (some [0]) [Mv 7 0,Ca 8 19 [.tmp 7] (some (.val (.one (.int .i64)))),Ol 2 (.assign (.const (.slice none 0 0))),As 3 8])
 .ret)
 .skip))
 (.seq (.reg (some [0]) [Mv 9 0,Ca 10 38 [.tmp 9] (some (.val (.one .slice))),As 2 10,Ac 3 0])
 .ret)),
 [.tmp 2,.tmp 3],
 [],
 []⟩
theorem r13_ok : resFun (progU ()) hint live 13 Try.f13 = some r13:=by kernel_rfl
def r14 : RFun :=
⟨.seq (.reg (some [0]) [Ol 2 (.assign (.const (.slice none 0 0))),Ac 3 0])
 (.seq (.seq (.reg (some [0]) [Mv 5 0,Ca 6 18 [.tmp 5] (some (.val (.one (.int .i64)))),As 4 6])
 (.seq (.reg (some [0,4]) [Mv 7 4,Bc 8 .neq 23 7 .i64 0])
 (.cond (.tmp 8) (.seq (.reg (some [4]) [Mv 9 4,Ol 2 (.assign (.const (.slice none 0 0))),As 3 9])
 .ret)
 .skip)))
 (.seq (.reg (some [0]) [Mv 10 0,Ca 11 39 [.tmp 10] (some (.val (.one .slice))),As 2 11,Ac 3 0])
 .ret)),
 [.tmp 2,.tmp 3],
 [],
 []⟩
theorem r14_ok : resFun (progU ()) hint live 14 Try.f14 = some r14:=by kernel_rfl
def r15 : RFun :=
⟨.seq (.reg (some [0]) [Ol 2 (.assign (.const (.slice none 0 0))),Ac 3 0])
 (.seq (.seq (.reg (some [0]) [Mv 4 0,Ca 5 19 [.tmp 4] (some (.val (.one (.int .i64)))),Bc 6 .neq 3 5 .i64 0])
 (.cond (.tmp 6) (.seq (.reg (some [0]) [Mv 7 0,Ca 8 19 [.tmp 7] (some (.val (.one (.int .i64)))),Ol 2 (.assign (.const (.slice none 0 0))),As 3 8])
 .ret)
 .skip))
 (.seq (.reg (some [0]) [Mv 9 0,Ca 10 40 [.tmp 9] (some (.val (.one .slice))),As 2 10,Ac 3 0])
 .ret)),
 [.tmp 2,.tmp 3],
 [],
 []⟩
theorem r15_ok : resFun (progU ()) hint live 15 Try.f15 = some r15:=by kernel_rfl
def r16 : RFun :=
⟨.seq (.reg (some [0]) [Ol 2 (.assign (.const (.bool false))),Ac 3 0])
 (.seq (.seq (.reg (some [0]) [Mv 5 0,Ca 6 18 [.tmp 5] (some (.val (.one (.int .i64)))),As 4 6])
 (.seq (.reg (some [0,4]) [Mv 7 4,Bc 8 .neq 23 7 .i64 0])
 (.cond (.tmp 8) (.seq (.reg (some [4]) [Mv 9 4,Ol 2 (.assign (.const (.bool false))),As 3 9])
 .ret)
 .skip)))
 (.seq (.reg (some [0]) [Mv 10 0,Ca 11 39 [.tmp 10] (some (.val (.one .slice))),Ro 12 (.lenS (.tmp 11)),Bc 13 .eql 3 12 .i64 2,As 2 13,Ac 3 0])
 .ret)),
 [.tmp 2,.tmp 3],
 [],
 []⟩
theorem r16_ok : resFun (progU ()) hint live 16 Try.f16 = some r16:=by kernel_rfl
def r17 : RFun :=
⟨.seq (.reg (some [0]) [Ol 2 (.assign (.const (.bool false))),Ac 3 0])
 (.seq (.seq (.reg (some [0]) [Mv 4 0,Ca 5 19 [.tmp 4] (some (.val (.one (.int .i64)))),Bc 6 .neq 3 5 .i64 0])
 (.cond (.tmp 6) (.seq (.reg (some [0]) [Mv 7 0,Ca 8 19 [.tmp 7] (some (.val (.one (.int .i64)))),Ol 2 (.assign (.const (.bool false))),As 3 8])
 .ret)
 .skip))
 (.seq (.reg (some [0]) [Mv 9 0,Ca 10 40 [.tmp 9] (some (.val (.one .slice))),Ro 11 (.lenS (.tmp 10)),Bc 12 .eql 3 11 .i64 2,As 2 12,Ac 3 0])
 .ret)),
 [.tmp 2,.tmp 3],
 [],
 []⟩
theorem r17_ok : resFun (progU ()) hint live 17 Try.f17 = some r17:=by kernel_rfl
def r18 : RFun :=
⟨.seq (.reg (some [0]) [Ac 2 0])
 (.seq (.seq (.reg (some [0]) [Mv 5 0,Ro 6 (.lenS (.tmp 5)),Bc 7 .gtr 3 6 .i64 5])
 (.cond (.tmp 7) (.seq (.reg (some []) [Ac 2 4])
 .ret)
 .skip))
 (.seq (.seq (.reg (some [0]) [Mv 8 0,Ro 9 (.lenS (.tmp 8)),Bc 10 .lss 3 9 .i64 2])
 (.cond (.tmp 10) (.seq (.reg (some []) [Ac 2 8])
 .ret)
 .skip))
 (.seq (.seq (.reg (some [0]) [Mv 11 0,Ro 12 (.lenS (.tmp 11)),Ol 13 (.move (.const (.int .i64 0)))])
 (.block 0 (.loop 6 none (some [0,11,12,13]))))
 (.seq (.reg (some []) [Ac 2 0])
 .ret)))),
 [.tmp 2],
 [(6,⟨none,some [0,11,12,13],.seq (.reg (some [0,11,12,13]) [Bt 14 .lss 3 13 12])
 (.seq (.cond (.tmp 14) .skip
 (.exit 0 (some [])))
 (.seq (.block 1 (.seq (.reg (some [0,11,12,13]) [Mv 15 13,Ix 16 1 11 13,L1 17 16,As 3 15,As 4 17])
 (.seq (.reg (some [0,3,4,11,12,13]) [Mv 18 4,Bc 19 .lss 3 18 .i64 0,Mv 20 19,⟨some 21,some (20,false),.op false (.old (.move (.tmp 4)))⟩,⟨some 22,some (20,false),.op false (.old (.binOp .gtr 3 (.tmp 21) (.const (.int .i64 31)) 3))⟩,Ol 23 (.pick (.tmp 20) (.const (.bool true)) (.tmp 22)),Mv 24 23,⟨some 25,some (24,false),.op false (.old (.move (.tmp 3)))⟩,⟨some 26,some (24,false),.op false (.old (.binOp .gtr 3 (.tmp 25) (.const (.int .i64 0)) 3))⟩,⟨some 27,some (24,false),.op false (.old (.move (.tmp 26)))⟩,⟨some 28,some (27,true),.op false (.old (.move (.tmp 4)))⟩,⟨some 29,some (27,true),.op false (.old (.move (.tmp 0)))⟩,⟨some 30,some (27,true),.op false (.old (.move (.tmp 3)))⟩,⟨some 31,some (27,true),.op false (.old (.binOp .sub 3 (.tmp 30) (.const (.int .i64 1)) 3))⟩,⟨some 32,some (27,true),.op false (.ixS 1 (.tmp 29) (.tmp 31))⟩,⟨some 33,some (27,true),.op false (.load1 (.int .i64) (.tmp 32))⟩,⟨some 34,some (27,true),.op false (.old (.binOp .leq 3 (.tmp 28) (.tmp 33) 3))⟩,⟨some 35,some (24,false),.op false (.old (.pick (.tmp 27) (.tmp 34) (.const (.bool false))))⟩,Ol 36 (.pick (.tmp 24) (.const (.bool true)) (.tmp 35))])
 (.cond (.tmp 36) (.seq (.reg (some []) [Ac 2 8])
 .ret)
 .skip))))
 (.reg (some [0,11,12,13]) [Bc 37 .add 3 13 .i64 1,Mv 13 37])))⟩)],
 []⟩
theorem r18_ok : resFun (progU ()) hint live 18 Try.f18 = some r18:=by kernel_rfl
def r19 : RFun :=
⟨.seq (.reg (some [0]) [Ac 2 0])
 (.seq (.seq (.reg (some [0]) [Mv 4 0,Ro 5 (.lenS (.tmp 4)),Bc 6 .gtr 3 5 .i64 5])
 (.cond (.tmp 6) (.seq (.reg (some []) [Ac 2 4])
 .ret)
 .skip))
 (.seq (.seq (.reg (some [0]) [Mv 7 0,Ro 8 (.lenS (.tmp 7)),Bc 9 .lss 3 8 .i64 2])
 (.cond (.tmp 9) (.seq (.reg (some []) [Ac 2 8])
 .ret)
 .skip))
 (.seq (.seq (.reg (some [0]) [Ac 3 0])
 (.block 0 (.loop 6 (some [0,3]) (some [0,3]))))
 (.seq (.reg (some []) [Ac 2 0])
 .ret)))),
 [.tmp 2],
 [(6,⟨some [0,3],some [0,3],.seq (.seq (.reg (some [0,3]) [Mv 10 3,Mv 11 0,Ro 12 (.lenS (.tmp 11)),Bt 13 .lss 3 10 12])
 (.cond (.tmp 13) .skip
 (.exit 0 (some []))))
 (.seq (.block 1 (.seq (.draw (some [0,3]) 28 [Dr (Mv 16 0) 0 [2,3,4,5,6,7,8,9,10,11,12,13,14,15,16,17,18,19,20,21,22,23,24,25,26,27],Dr (Mv 17 3) 1 [2,3,4,5,6,7,8,9,10,11,12,13,14,15,16,17,18,19,20,21,22,23,24,25,26,27],Dr (Ix 18 1 16 17) 2 [3,4,5,6,7,8,9,10,11,12,13,14,15,16,17,18,19,20,21,22,23,24,25,26,27],Db (L1 19 18) 3 18 [4,5,6,7,8,9,10,11,12,13,14,15,16,17,18,19,20,21,22,23,24,25,26,27],Dr (Bc 20 .lss 3 19 .i64 0) 4 [5,6,7,8,9,10,11,12,13,14,15,16,17,18,19,20,21,22,23,24,25,26,27],Dr (Mv 21 20) 5 [6,7,8,9,10,11,12,13,14,15,16,17,18,19,20,21,22,23,24,25,26,27],⟨⟨some 22,some (21,false),.op false (.old (.move (.tmp 0)))⟩,6,.none,[8,9,10,11,12,13,14,15,16,17,18,19,20,21,22,23,24,25,26,27],false,true⟩,⟨⟨some 23,some (21,false),.op false (.old (.move (.tmp 3)))⟩,7,.none,[8,9,10,11,12,13,14,15,16,17,18,19,20,21,22,23,24,25,26,27],false,true⟩,⟨⟨some 24,some (21,false),.op false (.ixS 1 (.tmp 22) (.tmp 23))⟩,8,.none,[9,10,11,12,13,14,15,16,17,18,19,20,21,22,23,24,25,26,27],false,true⟩,⟨⟨some 25,some (21,false),.op false (.load1 (.int .i64) (.tmp 24))⟩,9,.blk (.tmp 24),[10,11,12,13,14,15,16,17,18,19,20,21,22,23,24,25,26,27],false,true⟩,⟨⟨some 26,some (21,false),.op false (.old (.binOp .gtr 3 (.tmp 25) (.const (.int .i64 31)) 3))⟩,10,.none,[11,12,13,14,15,16,17,18,19,20,21,22,23,24,25,26,27],false,true⟩,Dr (Ol 27 (.pick (.tmp 21) (.const (.bool true)) (.tmp 26))) 11 [12,13,14,15,16,17,18,19,20,21,22,23,24,25,26,27],Dr (Mv 28 27) 12 [13,14,15,16,17,18,19,20,21,22,23,24,25,26,27],⟨⟨some 29,some (28,false),.op false (.old (.move (.tmp 3)))⟩,13,.none,[14,15,16,17,18,19,20,21,22,23,24,25,26,27],false,true⟩,⟨⟨some 30,some (28,false),.op false (.old (.binOp .gtr 3 (.tmp 29) (.const (.int .i64 0)) 3))⟩,14,.none,[15,16,17,18,19,20,21,22,23,24,25,26,27],false,true⟩,⟨⟨some 31,some (28,false),.op false (.old (.move (.tmp 30)))⟩,15,.none,[16,17,18,19,20,21,22,23,24,25,26,27],false,true⟩,⟨⟨some 32,some (31,true),.op false (.old (.move (.tmp 0)))⟩,16,.none,[18,19,25,26,27],false,true⟩,⟨⟨some 33,some (31,true),.op false (.old (.move (.tmp 3)))⟩,17,.none,[18,19,25,26,27],false,true⟩,⟨⟨some 34,some (31,true),.op false (.ixS 1 (.tmp 32) (.tmp 33))⟩,18,.none,[19,25,26,27],false,true⟩,⟨⟨some 35,some (31,true),.op false (.load1 (.int .i64) (.tmp 34))⟩,19,.blk (.tmp 34),[25,26,27],false,true⟩,⟨⟨some 36,some (31,true),.op false (.old (.move (.tmp 0)))⟩,20,.none,[23,24,25,26,27],false,true⟩,⟨⟨some 37,some (31,true),.op false (.old (.move (.tmp 3)))⟩,21,.none,[22,23,24,25,26,27],false,true⟩,⟨⟨some 38,some (31,true),.op false (.old (.binOp .sub 3 (.tmp 37) (.const (.int .i64 1)) 3))⟩,22,.none,[23,24,25,26,27],false,true⟩,⟨⟨some 39,some (31,true),.op false (.ixS 1 (.tmp 36) (.tmp 38))⟩,23,.none,[24,25,26,27],false,true⟩,⟨⟨some 40,some (31,true),.op false (.load1 (.int .i64) (.tmp 39))⟩,24,.blk (.tmp 39),[25,26,27],false,true⟩,⟨⟨some 41,some (31,true),.op false (.old (.binOp .leq 3 (.tmp 35) (.tmp 40) 3))⟩,25,.none,[26,27],false,true⟩,⟨⟨some 42,some (28,false),.op false (.old (.pick (.tmp 31) (.tmp 41) (.const (.bool false))))⟩,26,.none,[27],false,true⟩,Dr (Ol 43 (.pick (.tmp 28) (.const (.bool true)) (.tmp 42))) 27 []])
 (.cond (.tmp 43) (.seq (.reg (some []) [Ac 2 8])
 .ret)
 .skip)))
 (.reg (some [0,3]) [Mv 14 3,Bc 15 .add 3 14 .i64 1,As 3 15]))⟩)],
 []⟩
theorem r19_ok : resFun (progU ()) hint live 19 Try.f19 = some r19:=by kernel_rfl
def r20 : RFun :=
⟨.seq (.reg (some [0,1]) [Ol 4 (.assign (.const (.bool false)))])
 (.seq (.seq (.reg (some [0,1]) [Mv 6 0,Ro 7 (.lenS (.tmp 6)),Mv 8 1,Ro 9 (.lenS (.tmp 8)),Bt 10 .neq 3 7 9])
 (.cond (.tmp 10) (.seq (.reg (some []) [Ol 4 (.assign (.const (.bool false)))])
 .ret)
 .skip))
 (.seq (.seq (.reg (some [0,1]) [Ac 5 0])
 (.block 0 (.loop 4 (some [0,1,5]) (some [0,1,5]))))
 (.seq (.reg (some []) [Ol 4 (.assign (.const (.bool true)))])
 .ret))),
 [.tmp 4],
 [(4,⟨some [0,1,5],some [0,1,5],.seq (.seq (.reg (some [0,1,5]) [Mv 11 5,Mv 12 0,Ro 13 (.lenS (.tmp 12)),Bt 14 .lss 3 11 13])
 (.cond (.tmp 14) .skip
 (.exit 0 (some []))))
 (.seq (.block 1 (.seq (.draw (some [0,1,5]) 9 [Dr (Mv 17 0) 0 [2,3,8],Dr (Mv 18 5) 1 [2,3,8],Dr (Ix 19 1 17 18) 2 [3,8],Db (L1 20 19) 3 19 [8],Dr (Mv 21 1) 4 [6,7,8],Dr (Mv 22 5) 5 [6,7,8],Dr (Ix 23 1 21 22) 6 [7,8],Db (L1 24 23) 7 23 [8],Dr (Bt 25 .neq 3 20 24) 8 []])
 (.cond (.tmp 25) (.seq (.reg (some []) [Ol 4 (.assign (.const (.bool false)))])
 .ret)
 .skip)))
 (.reg (some [0,1,5]) [Mv 15 5,Bc 16 .add 3 15 .i64 1,As 5 16]))⟩)],
 []⟩
theorem r20_ok : resFun (progU ()) hint live 20 Try.f20 = some r20:=by kernel_rfl
def r21 : RFun :=
⟨.seq (.reg (some [0,1]) [Ol 4 (.assign (.const (.bool false)))])
 (.seq (.seq (.reg (some [0,1]) [Mv 6 0,Ro 7 (.lenS (.tmp 6)),Mv 8 1,Ro 9 (.lenS (.tmp 8)),Bt 10 .neq 3 7 9])
 (.cond (.tmp 10) (.seq (.reg (some []) [Ol 4 (.assign (.const (.bool false)))])
 .ret)
 .skip))
 (.seq (.seq (.reg (some [0,1]) [Ac 5 0])
 (.block 0 (.loop 4 (some [0,1,5]) (some [0,1,5]))))
 (.seq (.reg (some []) [Ol 4 (.assign (.const (.bool true)))])
 .ret))),
 [.tmp 4],
 [(4,⟨some [0,1,5],some [0,1,5],.seq (.seq (.reg (some [0,1,5]) [Mv 11 5,Mv 12 0,Ro 13 (.lenS (.tmp 12)),Bt 14 .lss 3 11 13])
 (.cond (.tmp 14) .skip
 (.exit 0 (some []))))
 (.seq (.block 1 (.seq (.draw (some [0,1,5]) 10 [Dr (Mv 17 0) 0 [2,3,8,9],Dr (Mv 18 5) 1 [2,3,8,9],Dr (Ix 19 1 17 18) 2 [3,8,9],Db (Ro 20 (.load1 .slice (.tmp 19))) 3 19 [8,9],Dr (Mv 21 1) 4 [6,7,8,9],Dr (Mv 22 5) 5 [6,7,8,9],Dr (Ix 23 1 21 22) 6 [7,8,9],Db (Ro 24 (.load1 .slice (.tmp 23))) 7 23 [8,9],⟨Ca 25 20 [.tmp 20,.tmp 24] (some (.val (.one .bool))),8,.all,[9],false,false⟩,Dr (Ol 26 (.unOp .not 4 (.tmp 25))) 9 []])
 (.cond (.tmp 26) (.seq (.reg (some []) [Ol 4 (.assign (.const (.bool false)))])
 .ret)
 .skip)))
 (.reg (some [0,1,5]) [Mv 15 5,Bc 16 .add 3 15 .i64 1,As 5 16]))⟩)],
 []⟩
theorem r21_ok : resFun (progU ()) hint live 21 Try.f21 = some r21:=by kernel_rfl
def r22 : RFun :=
⟨.seq (.reg (some [0,1]) [Ol 4 (.assign (.const (.bool false)))])
 (.seq (.seq (.reg (some [0,1]) [Mv 6 0,Ro 7 (.lenS (.tmp 6)),Mv 8 1,Ro 9 (.lenS (.tmp 8)),Bt 10 .neq 3 7 9])
 (.cond (.tmp 10) (.seq (.reg (some []) [Ol 4 (.assign (.const (.bool false)))])
 .ret)
 .skip))
 (.seq (.seq (.reg (some [0,1]) [Ac 5 0])
 (.block 0 (.loop 4 (some [0,1,5]) (some [0,1,5]))))
 (.seq (.reg (some []) [Ol 4 (.assign (.const (.bool true)))])
 .ret))),
 [.tmp 4],
 [(4,⟨some [0,1,5],some [0,1,5],.seq (.seq (.reg (some [0,1,5]) [Mv 11 5,Mv 12 0,Ro 13 (.lenS (.tmp 12)),Bt 14 .lss 3 11 13])
 (.cond (.tmp 14) .skip
 (.exit 0 (some []))))
 (.seq (.block 1 (.seq (.draw (some [0,1,5]) 10 [Dr (Mv 17 0) 0 [2,3,8,9],Dr (Mv 18 5) 1 [2,3,8,9],Dr (Ix 19 1 17 18) 2 [3,8,9],Db (Ro 20 (.load1 .slice (.tmp 19))) 3 19 [8,9],Dr (Mv 21 1) 4 [6,7,8,9],Dr (Mv 22 5) 5 [6,7,8,9],Dr (Ix 23 1 21 22) 6 [7,8,9],Db (Ro 24 (.load1 .slice (.tmp 23))) 7 23 [8,9],⟨Ca 25 28 [.tmp 20,.tmp 24] (some (.val (.one .bool))),8,.all,[9],false,false⟩,Dr (Ol 26 (.unOp .not 4 (.tmp 25))) 9 []])
 (.cond (.tmp 26) (.seq (.reg (some []) [Ol 4 (.assign (.const (.bool false)))])
 .ret)
 .skip)))
 (.reg (some [0,1,5]) [Mv 15 5,Bc 16 .add 3 15 .i64 1,As 5 16]))⟩)],
 []⟩
theorem r22_ok : resFun (progU ()) hint live 22 Try.f22 = some r22:=by kernel_rfl
end Go.Proofs.Ytogliemiljhliaa
