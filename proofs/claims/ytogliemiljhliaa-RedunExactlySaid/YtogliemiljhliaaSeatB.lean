import Derived.Test.YtogliemiljhliaaSeat0
import Derived.Test.YtogliemiljhliaaSymS
set_option linter.unusedSimpArgs false
set_option linter.unusedVariables false
namespace Go.Proofs.Ytogliemiljhliaa
open Go.Sim
set_option maxRecDepth 100000
def r9 : RFun :=
⟨.seq (.reg (some [0,1,2]) [Ol 6 (.assign (.const (.bool false)))])
 (.seq (.reg (some [0,1,2]) [Ca 27 23 [] (some (.val (.one .bool))),As 7 27])
 (.seq (.seq (.reg (some [0,1,2,7]) [Mv 28 0,Ca 29 19 [.tmp 28] (some (.val (.one (.int .i64)))),Bc 30 .neq 3 29 .i64 0,Mv 31 30,⟨some 32,some (31,false),.op false (.old (.move (.tmp 1)))⟩,⟨some 33,some (31,false),.op false (.lenS (.tmp 32))⟩,⟨some 34,some (31,false),.op false (.old (.move (.tmp 0)))⟩,⟨some 35,some (31,false),.op false (.lenS (.tmp 34))⟩,⟨some 36,some (31,false),.op false (.old (.binOp .neq 3 (.tmp 33) (.tmp 35) 3))⟩,Ol 37 (.pick (.tmp 31) (.const (.bool true)) (.tmp 36)),Mv 38 37,⟨some 39,some (38,false),.op false (.old (.move (.tmp 2)))⟩,⟨some 40,some (38,false),.op false (.lenS (.tmp 39))⟩,⟨some 41,some (38,false),.op false (.old (.binOp .gtr 3 (.tmp 40) (.const (.int .i64 20)) 3))⟩,Ol 42 (.pick (.tmp 38) (.const (.bool true)) (.tmp 41)),Mv 43 42,⟨some 44,some (43,false),.op false (.old (.move (.tmp 7)))⟩,⟨some 45,some (43,false),.op false (.old (.unOp .not 4 (.tmp 44)))⟩,Ol 46 (.pick (.tmp 43) (.const (.bool true)) (.tmp 45))])
 (.cond (.tmp 46) (.seq (.reg (some [7]) [Mv 47 7,As 6 47])
 .ret)
 .skip))
 (.seq (.reg (some [0,1,2,7]) [Mv 49 0,Mv 50 1,Mv 51 2,Ca 52 30 [.tmp 49,.tmp 50,.tmp 51] (some (.tup [.one .slice,.one (.int .i64)])),Mv 48 52,Ex 53 48 0,Ex 54 48 1,As 8 53,As 9 54])
 (.seq (.seq (.reg (some [0,1,2,7,8,9]) [Mv 55 9,Bc 56 .neq 23 55 .i64 0])
 (.cond (.tmp 56) (.seq (.reg (some [7,9]) [Mv 57 7,Mv 58 57,⟨some 59,some (58,true),.op false (.old (.move (.tmp 9)))⟩,⟨some 60,some (58,true),.op false (.old (.binOp .eql 23 (.tmp 59) (.const (.int .i64 2)) 23))⟩,Ol 61 (.pick (.tmp 58) (.tmp 60) (.const (.bool false))),As 6 61])
 .ret)
 .skip))
 (.seq (.reg (some [0,1,2,7,8]) [Ol 10 (.assign (.const (.slice none 0 0)))])
 (.seq (.seq (.reg (some [0,1,2,7,8,10]) [Ac 11 0])
 (.block 0 (.loop 9 none (some [0,1,2,7,8,10,11]))))
 (.seq (.seq (.reg (some [0,1,2,7,8,10]) [Mv 99 0,Mv 100 10,Ca 101 32 [.tmp 99,.tmp 100] (some (.val (.one .bool))),Ol 102 (.unOp .not 4 (.tmp 101))])
 (.cond (.tmp 102) (.seq (.reg (some []) [Ol 6 (.assign (.const (.bool false)))])
 .ret)
 .skip))
 (.seq (.reg (some [0,1,2,7,8,10]) [Mv 104 0,Mv 105 10,Ca 106 27 [.tmp 104,.tmp 105] (some (.tup [.one .slice,.one .slice,.one (.int .i64)])),Mv 103 106,Ex 107 103 0,Ex 108 103 1,Ex 109 103 2,As 12 107,As 13 108,As 14 109])
 (.seq (.reg (some [0,1,2,7,8,12,13,14]) [Mv 111 0,Ca 112 14 [.tmp 111] (some (.tup [.one .slice,.one (.int .i64)])),Mv 110 112,Ex 113 110 0,Ex 114 110 1,As 15 113,As 16 114])
 (.seq (.seq (.reg (some [0,1,2,7,8,12,13,14,15,16]) [Mv 115 14,Bc 116 .neq 23 115 .i64 0,Mv 117 116,⟨some 118,some (117,false),.op false (.old (.move (.tmp 16)))⟩,⟨some 119,some (117,false),.op false (.old (.binOp .neq 23 (.tmp 118) (.const (.int .i64 0)) 23))⟩,Ol 120 (.pick (.tmp 117) (.const (.bool true)) (.tmp 119)),Mv 121 120,⟨some 122,some (121,false),.op false (.old (.move (.tmp 12)))⟩,⟨some 123,some (121,false),.op false (.lenS (.tmp 122))⟩,⟨some 124,some (121,false),.op false (.old (.move (.tmp 0)))⟩,⟨some 125,some (121,false),.op false (.lenS (.tmp 124))⟩,⟨some 126,some (121,false),.op false (.old (.binOp .neq 3 (.tmp 123) (.tmp 125) 3))⟩,Ol 127 (.pick (.tmp 121) (.const (.bool true)) (.tmp 126)),Mv 128 127,⟨some 129,some (128,false),.op false (.old (.move (.tmp 13)))⟩,⟨some 130,some (128,false),.op false (.lenS (.tmp 129))⟩,⟨some 131,some (128,false),.op false (.old (.move (.tmp 2)))⟩,⟨some 132,some (128,false),.op false (.lenS (.tmp 131))⟩,⟨some 133,some (128,false),.op false (.old (.binOp .neq 3 (.tmp 130) (.tmp 132) 3))⟩,Ol 134 (.pick (.tmp 128) (.const (.bool true)) (.tmp 133))])
 (.cond (.tmp 134) (.seq (.reg (some []) [Ol 6 (.assign (.const (.bool false)))])
 .ret)
 .skip))
 (.seq (.reg (some [0,1,2,7,8,12,13,15]) [Ol 17 (.assign (.const (.slice none 0 0)))])
 (.seq (.seq (.reg (some [0,1,2,7,8,12,13,15,17]) [Ac 18 0])
 (.block 2 (.loop 22 (some [0,1,2,7,8,12,13,15,17,18]) (some [0,1,2,7,8,12,13,15,17,18]))))
 (.seq (.seq (.reg (some [0,2,7,8,12,13,15,17]) [Ac 21 0])
 (.block 4 (.loop 27 (some [0,2,7,8,12,13,15,17,21]) (some [0,2,7,8,12,13,15,17,21]))))
 (.seq (.seq (.reg (some [0,7,8,12,13,15,17]) [Ac 24 0])
 (.block 6 (.loop 32 none (some [0,7,8,12,13,15,17,24]))))
 (.seq (.seq (.reg (some [0,7,8,12,13,15,17]) [Mv 193 15,Mv 194 17,Ca 195 26 [.tmp 193,.tmp 194] (some (.val (.one .bool))),Ol 196 (.unOp .not 4 (.tmp 195))])
 (.cond (.tmp 196) (.seq (.reg (some []) [Ol 6 (.assign (.const (.bool false)))])
 .ret)
 .skip))
 (.seq (.seq (.reg (some [0,7,8,12,13]) [Mv 197 12,Ca 198 34 [.tmp 197] (some (.val (.one .bool))),Ol 199 (.unOp .not 4 (.tmp 198)),Mv 200 199,⟨some 201,some (200,false),.op false (.old (.move (.tmp 13)))⟩,⟨some 202,some (200,false),.call (.func 34) [.tmp 201] (some (.val (.one .bool)))⟩,⟨some 203,some (200,false),.op false (.old (.unOp .not 4 (.tmp 202)))⟩,Ol 204 (.pick (.tmp 200) (.const (.bool true)) (.tmp 203))])
 (.cond (.tmp 204) (.seq (.reg (some [7]) [Mv 205 7,As 6 205])
 .ret)
 .skip))
 (.seq (.reg (some [0,7,8,12,13]) [Mv 207 0,Mv 208 12,Mv 209 13,Ca 210 30 [.tmp 207,.tmp 208,.tmp 209] (some (.tup [.one .slice,.one (.int .i64)])),Mv 206 210,Ex 211 206 0,Ex 212 206 1,As 25 211,As 26 212])
 (.seq (.reg (some [7,8,25,26]) [Mv 213 7,Mv 214 213,⟨some 215,some (214,true),.op false (.old (.move (.tmp 26)))⟩,⟨some 216,some (214,true),.op false (.old (.binOp .eql 23 (.tmp 215) (.const (.int .i64 0)) 23))⟩,Ol 217 (.pick (.tmp 214) (.tmp 216) (.const (.bool false))),Mv 218 217,⟨some 219,some (218,true),.op false (.old (.move (.tmp 8)))⟩,⟨some 220,some (218,true),.op false (.old (.move (.tmp 25)))⟩,⟨some 221,some (218,true),.call (.func 28) [.tmp 219,.tmp 220] (some (.val (.one .bool)))⟩,Ol 222 (.pick (.tmp 218) (.tmp 221) (.const (.bool false))),As 6 222])
 .ret)))))))))))))))))),
 [.tmp 6],
 [(9,⟨none,some [0,1,2,7,8,10,11],.seq (.seq (.reg (some [0,1,2,7,8,10,11]) [Mv 62 11,Mv 63 8,Ro 64 (.lenS (.tmp 63)),Bt 65 .lss 3 62 64])
 (.cond (.tmp 65) .skip
 (.exit 0 (some [0,1,2,7,8,10]))))
 (.seq (.block 1 (.seq (.seq (.reg (some [0,1,2,7,8,10,11]) [Mv 68 8,Mv 69 11,Ix 70 2 68 69,Fa 71 1 70,L1 72 71,Bc 73 .neq 2 72 .i64 1,Mv 74 73,⟨some 75,some (74,false),.op false (.old (.move (.tmp 8)))⟩,⟨some 76,some (74,false),.op false (.old (.move (.tmp 11)))⟩,⟨some 77,some (74,false),.op false (.ixS 2 (.tmp 75) (.tmp 76))⟩,⟨some 78,some (74,false),.op false (.fieldAddr 0 (.tmp 77))⟩,⟨some 79,some (74,false),.op false (.load1 (.int .i64) (.tmp 78))⟩,⟨some 80,some (74,false),.op false (.old (.binOp .lss 2 (.tmp 79) (.const (.int .i64 (-99))) 2))⟩,Ol 81 (.pick (.tmp 74) (.const (.bool true)) (.tmp 80)),Mv 82 81,⟨some 83,some (82,false),.op false (.old (.move (.tmp 8)))⟩,⟨some 84,some (82,false),.op false (.old (.move (.tmp 11)))⟩,⟨some 85,some (82,false),.op false (.ixS 2 (.tmp 83) (.tmp 84))⟩,⟨some 86,some (82,false),.op false (.fieldAddr 0 (.tmp 85))⟩,⟨some 87,some (82,false),.op false (.load1 (.int .i64) (.tmp 86))⟩,⟨some 88,some (82,false),.op false (.old (.binOp .gtr 2 (.tmp 87) (.const (.int .i64 99)) 2))⟩,Ol 89 (.pick (.tmp 82) (.const (.bool true)) (.tmp 88))])
 (.cond (.tmp 89) (.seq (.reg (some [7]) [Mv 90 7,As 6 90])
 .ret)
 .skip))
 (.reg (some [0,1,2,7,8,10,11]) [Mv 91 10,Mv 92 8,Mv 93 11,Ix 94 2 92 93,Fa 95 0 94,L1 96 95,Ro 97 (.buildSlice 1 1 [.int .i64 0] [(0,1,(.tmp 96))]),⟨some 98,none,.op false (.old (.call ⟨.builtin .append,#[.tmp 91,.tmp 97],#[22,22]⟩))⟩,As 10 98])))
 (.reg (some [0,1,2,7,8,10,11]) [Mv 66 11,Bc 67 .add 3 66 .i64 1,As 11 67]))⟩),(22,⟨some [0,1,2,7,8,12,13,15,17,18],some [0,1,2,7,8,12,13,15,17,18],.seq (.seq (.reg (some [0,1,2,7,8,12,13,15,17,18]) [Mv 135 18,Mv 136 12,Ro 137 (.lenS (.tmp 136)),Bt 138 .lss 3 135 137])
 (.cond (.tmp 138) .skip
 (.exit 2 (some [0,2,7,8,12,13,15,17]))))
 (.seq (.block 3 (.seq (.draw (some [0,1,2,7,8,12,13,15,17,18]) 15 [Dr (Mv 142 1) 0 [2,3,8,9,10,11,13,14],Dr (Mv 143 18) 1 [2,3,8,9,10,11,13,14],Dr (Ix 144 2 142 143) 2 [3,8,9,10,11,13,14],Db (Ld 145 144) 3 144 [8,9,10,11,13,14],Dr (Mv 146 12) 4 [6,7,8,9,10,11,13,14],Dr (Mv 147 18) 5 [6,7,8,9,10,11,13,14],Dr (Ix 148 2 146 147) 6 [7,8,9,10,11,13,14],Db (Ld 149 148) 7 148 [8,9,10,11,13,14],⟨⟨some 19,none,.op true (.new 2 [.int .i64 0,.int .i64 0])⟩,12,.new true,[13,14],false,true⟩,⟨Ca 150 33 [.tmp 145,.tmp 149] (some (.tup [.agg [.int .i64,.int .i64],.one (.int .i64)])),8,.all,[9,10,11,13,14],false,false⟩,Dr (Mv 141 150) 9 [10,11,13,14],Dr (Ex 151 141 0) 10 [13,14],Dr (Ex 152 141 1) 11 [14],⟨⟨none,none,.op false (.store 2 (.tmp 19) (.tmp 151))⟩,13,.blk (.tmp 19),[14],true,true⟩,Dr (As 20 152) 14 []])
 (.reg (some [0,1,2,7,8,12,13,15,17,18,19]) [Mv 153 17,Ld 154 19,Ro 155 (.buildSlice 2 1 [.int .i64 0,.int .i64 0] [(0,2,(.tmp 154))]),⟨some 156,none,.op false (.old (.call ⟨.builtin .append,#[.tmp 153,.tmp 155],#[50,50]⟩))⟩,As 17 156])))
 (.reg (some [0,1,2,7,8,12,13,15,17,18]) [Mv 139 18,Bc 140 .add 3 139 .i64 1,As 18 140]))⟩),(27,⟨some [0,2,7,8,12,13,15,17,21],some [0,2,7,8,12,13,15,17,21],.seq (.seq (.reg (some [0,2,7,8,12,13,15,17,21]) [Mv 157 21,Mv 158 13,Ro 159 (.lenS (.tmp 158)),Bt 160 .lss 3 157 159])
 (.cond (.tmp 160) .skip
 (.exit 4 (some [0,7,8,12,13,15,17]))))
 (.seq (.block 5 (.seq (.draw (some [0,2,7,8,12,13,15,17,21]) 15 [Dr (Mv 164 2) 0 [2,3,8,9,10,11,13,14],Dr (Mv 165 21) 1 [2,3,8,9,10,11,13,14],Dr (Ix 166 2 164 165) 2 [3,8,9,10,11,13,14],Db (Ld 167 166) 3 166 [8,9,10,11,13,14],Dr (Mv 168 13) 4 [6,7,8,9,10,11,13,14],Dr (Mv 169 21) 5 [6,7,8,9,10,11,13,14],Dr (Ix 170 2 168 169) 6 [7,8,9,10,11,13,14],Db (Ld 171 170) 7 170 [8,9,10,11,13,14],⟨⟨some 22,none,.op true (.new 2 [.int .i64 0,.int .i64 0])⟩,12,.new true,[13,14],false,true⟩,⟨Ca 172 33 [.tmp 167,.tmp 171] (some (.tup [.agg [.int .i64,.int .i64],.one (.int .i64)])),8,.all,[9,10,11,13,14],false,false⟩,Dr (Mv 163 172) 9 [10,11,13,14],Dr (Ex 173 163 0) 10 [13,14],Dr (Ex 174 163 1) 11 [14],⟨⟨none,none,.op false (.store 2 (.tmp 22) (.tmp 173))⟩,13,.blk (.tmp 22),[14],true,true⟩,Dr (As 23 174) 14 []])
 (.reg (some [0,2,7,8,12,13,15,17,21,22]) [Mv 175 17,Ld 176 22,Ro 177 (.buildSlice 2 1 [.int .i64 0,.int .i64 0] [(0,2,(.tmp 176))]),⟨some 178,none,.op false (.old (.call ⟨.builtin .append,#[.tmp 175,.tmp 177],#[50,50]⟩))⟩,As 17 178])))
 (.reg (some [0,2,7,8,12,13,15,17,21]) [Mv 161 21,Bc 162 .add 3 161 .i64 1,As 21 162]))⟩),(32,⟨none,some [0,7,8,12,13,15,17,24],.seq (.seq (.reg (some [0,7,8,12,13,15,17,24]) [Mv 179 24,Mv 180 15,Ro 181 (.lenS (.tmp 180)),Bt 182 .lss 3 179 181])
 (.cond (.tmp 182) .skip
 (.exit 6 (some [0,7,8,12,13,15,17]))))
 (.seq (.block 7 (.seq (.reg (some [0,7,8,12,13,15,17,24]) [Mv 185 15,Mv 186 24,Ix 187 1 185 186,Ro 188 (.load1 .slice (.tmp 187)),Ro 189 (.lenS (.tmp 188)),Mv 190 17,Ro 191 (.lenS (.tmp 190)),Bt 192 .neq 3 189 191])
 (.cond (.tmp 192) (.seq (.reg (some []) [Ol 6 (.assign (.const (.bool false)))])
 .ret)
 .skip)))
 (.reg (some [0,7,8,12,13,15,17,24]) [Mv 183 24,Bc 184 .add 3 183 .i64 1,As 24 184]))⟩)],
 []⟩
def r10 : RFun :=
⟨.seq (.reg (some [0]) [Ol 2 (.assign (.const (.slice none 0 0))),Ac 3 0])
 (.seq (.seq (.reg (some [0]) [Mv 5 0,Ca 6 18 [.tmp 5] (some (.val (.one (.int .i64)))),As 4 6])
 (.seq (.reg (some [0,4]) [Mv 7 4,Bc 8 .neq 23 7 .i64 0])
 (.cond (.tmp 8) (.seq (.reg (some [4]) [Mv 9 4,Ol 2 (.assign (.const (.slice none 0 0))),As 3 9])
 .ret)
 .skip)))
 (.seq (.reg (some [0]) [Mv 10 0,Ca 11 35 [.tmp 10] (some (.val (.one .slice))),As 2 11,Ac 3 0])
 .ret)),
 [.tmp 2,.tmp 3],
 [],
 []⟩
theorem r10_ok : resFun (progU ()) hint live 10 Try.f10 = some r10:=by kernel_rfl
def r11 : RFun :=
⟨.seq (.reg (some [0]) [Ol 2 (.assign (.const (.slice none 0 0))),Ac 3 0])
 (.seq (.seq (.reg (some [0]) [Mv 4 0,Ca 5 19 [.tmp 4] (some (.val (.one (.int .i64)))),Bc 6 .neq 3 5 .i64 0])
 (.cond (.tmp 6) (.seq (.reg (some [0]) [Mv 7 0,Ca 8 19 [.tmp 7] (some (.val (.one (.int .i64)))),Ol 2 (.assign (.const (.slice none 0 0))),As 3 8])
 .ret)
 .skip))
 (.seq (.reg (some [0]) [Mv 9 0,Ca 10 36 [.tmp 9] (some (.val (.one .slice))),As 2 10,Ac 3 0])
 .ret)),
 [.tmp 2,.tmp 3],
 [],
 []⟩
def r12 : RFun :=
⟨.seq (.reg (some [0]) [Ol 2 (.assign (.const (.slice none 0 0))),Ac 3 0])
 (.seq (.seq (.reg (some [0]) [Mv 5 0,Ca 6 18 [.tmp 5] (some (.val (.one (.int .i64)))),As 4 6])
 (.seq (.reg (some [0,4]) [Mv 7 4,Bc 8 .neq 23 7 .i64 0])
 (.cond (.tmp 8) (.seq (.reg (some [4]) [Mv 9 4,Ol 2 (.assign (.const (.slice none 0 0))),As 3 9])
 .ret)
 .skip)))
 (.seq (.reg (some [0]) [Mv 10 0,Ca 11 37 [.tmp 10] (some (.val (.one .slice))),As 2 11,Ac 3 0])
 .ret)),
 [.tmp 2,.tmp 3],
 [],
 []⟩
theorem r12_ok : resFun (progU ()) hint live 12 Try.f12 = some r12:=by kernel_rfl
def r14 : RFun :=
⟨.seq (.reg (some [0]) [Ol 2 (.assign (.const (.slice none 0 0))),Ac 3 0])
 (.seq (.seq (.reg (some [0]) [Mv 5 0,Ca 6 18 [.tmp 5] (some (.val (.one (.int .i64)))),As 4 6])
 (.seq (.reg (some [0,4]) [Mv 7 4,Bc 8 .neq 23 7 .i64 0])
 (.cond (.tmp 8) (.seq (.reg (some [4]) [Mv 9 4,Ol 2 (.assign (.const (.slice none 0 0))),As 3 9])
 .ret)
 .skip)))
 (.seq (.reg (some [0]) [Mv 10 0,Ca 11 39 [.tmp 10] (some (.val (.one .slice))),As 2 11,Ac 3 0])
 .ret)),
 [.tmp 2,.tmp 3],
 [],
 []⟩
theorem r14_ok : resFun (progU ()) hint live 14 Try.f14 = some r14:=by kernel_rfl
def r16 : RFun :=
⟨.seq (.reg (some [0]) [Ol 2 (.assign (.const (.bool false))),Ac 3 0])
 (.seq (.seq (.reg (some [0]) [Mv 5 0,Ca 6 18 [.tmp 5] (some (.val (.one (.int .i64)))),As 4 6])
 (.seq (.reg (some [0,4]) [Mv 7 4,Bc 8 .neq 23 7 .i64 0])
 (.cond (.tmp 8) (.seq (.reg (some [4]) [Mv 9 4,Ol 2 (.assign (.const (.bool false))),As 3 9])
 .ret)
 .skip)))
 (.seq (.reg (some [0]) [Mv 10 0,Ca 11 39 [.tmp 10] (some (.val (.one .slice))),Ro 12 (.lenS (.tmp 11)),Bc 13 .eql 3 12 .i64 2,As 2 13,Ac 3 0])
 .ret)),
 [.tmp 2,.tmp 3],
 [],
 []⟩
theorem r16_ok : resFun (progU ()) hint live 16 Try.f16 = some r16:=by kernel_rfl
def r18 : RFun :=
⟨.seq (.reg (some [0]) [Ac 2 0])
 (.seq (.seq (.reg (some [0]) [Mv 5 0,Ro 6 (.lenS (.tmp 5)),Bc 7 .gtr 3 6 .i64 5])
 (.cond (.tmp 7) (.seq (.reg (some []) [Ac 2 4])
 .ret)
 .skip))
 (.seq (.seq (.reg (some [0]) [Mv 8 0,Ro 9 (.lenS (.tmp 8)),Bc 10 .lss 3 9 .i64 2])
 (.cond (.tmp 10) (.seq (.reg (some []) [Ac 2 8])
 .ret)
 .skip))
 (.seq (.seq (.reg (some [0]) [Mv 11 0,Ro 12 (.lenS (.tmp 11)),Ol 13 (.move (.const (.int .i64 0)))])
 (.block 0 (.loop 6 none (some [0,11,12,13]))))
 (.seq (.reg (some []) [Ac 2 0])
 .ret)))),
 [.tmp 2],
 [(6,⟨none,some [0,11,12,13],.seq (.reg (some [0,11,12,13]) [Bt 14 .lss 3 13 12])
 (.seq (.cond (.tmp 14) .skip
 (.exit 0 (some [])))
 (.seq (.block 1 (.seq (.reg (some [0,11,12,13]) [Mv 15 13,Ix 16 1 11 13,L1 17 16,As 3 15,As 4 17])
 (.seq (.reg (some [0,3,4,11,12,13]) [Mv 18 4,Bc 19 .lss 3 18 .i64 0,Mv 20 19,⟨some 21,some (20,false),.op false (.old (.move (.tmp 4)))⟩,⟨some 22,some (20,false),.op false (.old (.binOp .gtr 3 (.tmp 21) (.const (.int .i64 31)) 3))⟩,Ol 23 (.pick (.tmp 20) (.const (.bool true)) (.tmp 22)),Mv 24 23,⟨some 25,some (24,false),.op false (.old (.move (.tmp 3)))⟩,⟨some 26,some (24,false),.op false (.old (.binOp .gtr 3 (.tmp 25) (.const (.int .i64 0)) 3))⟩,⟨some 27,some (24,false),.op false (.old (.move (.tmp 26)))⟩,⟨some 28,some (27,true),.op false (.old (.move (.tmp 4)))⟩,⟨some 29,some (27,true),.op false (.old (.move (.tmp 0)))⟩,⟨some 30,some (27,true),.op false (.old (.move (.tmp 3)))⟩,⟨some 31,some (27,true),.op false (.old (.binOp .sub 3 (.tmp 30) (.const (.int .i64 1)) 3))⟩,⟨some 32,some (27,true),.op false (.ixS 1 (.tmp 29) (.tmp 31))⟩,⟨some 33,some (27,true),.op false (.load1 (.int .i64) (.tmp 32))⟩,⟨some 34,some (27,true),.op false (.old (.binOp .leq 3 (.tmp 28) (.tmp 33) 3))⟩,⟨some 35,some (24,false),.op false (.old (.pick (.tmp 27) (.tmp 34) (.const (.bool false))))⟩,Ol 36 (.pick (.tmp 24) (.const (.bool true)) (.tmp 35))])
 (.cond (.tmp 36) (.seq (.reg (some []) [Ac 2 8])
 .ret)
 .skip))))
 (.reg (some [0,11,12,13]) [Bc 37 .add 3 13 .i64 1,Mv 13 37])))⟩)],
 []⟩
theorem r18_ok : resFun (progU ()) hint live 18 Try.f18 = some r18:=by kernel_rfl
def r19 : RFun :=
⟨.seq (.reg (some [0]) [Ac 2 0])
 (.seq (.seq (.reg (some [0]) [Mv 4 0,Ro 5 (.lenS (.tmp 4)),Bc 6 .gtr 3 5 .i64 5])
 (.cond (.tmp 6) (.seq (.reg (some []) [Ac 2 4])
 .ret)
 .skip))
 (.seq (.seq (.reg (some [0]) [Mv 7 0,Ro 8 (.lenS (.tmp 7)),Bc 9 .lss 3 8 .i64 2])
 (.cond (.tmp 9) (.seq (.reg (some []) [Ac 2 8])
 .ret)
 .skip))
 (.seq (.seq (.reg (some [0]) [Ac 3 0])
 (.block 0 (.loop 6 (some [0,3]) (some [0,3]))))
 (.seq (.reg (some []) [Ac 2 0])
 .ret)))),
 [.tmp 2],
 [(6,⟨some [0,3],some [0,3],.seq (.seq (.reg (some [0,3]) [Mv 10 3,Mv 11 0,Ro 12 (.lenS (.tmp 11)),Bt 13 .lss 3 10 12])
 (.cond (.tmp 13) .skip
 (.exit 0 (some []))))
 (.seq (.block 1 (.seq (.draw (some [0,3]) 28 [Dr (Mv 16 0) 0 [2,3,4,5,6,7,8,9,10,11,12,13,14,15,16,17,18,19,20,21,22,23,24,25,26,27],Dr (Mv 17 3) 1 [2,3,4,5,6,7,8,9,10,11,12,13,14,15,16,17,18,19,20,21,22,23,24,25,26,27],Dr (Ix 18 1 16 17) 2 [3,4,5,6,7,8,9,10,11,12,13,14,15,16,17,18,19,20,21,22,23,24,25,26,27],Db (L1 19 18) 3 18 [4,5,6,7,8,9,10,11,12,13,14,15,16,17,18,19,20,21,22,23,24,25,26,27],Dr (Bc 20 .lss 3 19 .i64 0) 4 [5,6,7,8,9,10,11,12,13,14,15,16,17,18,19,20,21,22,23,24,25,26,27],Dr (Mv 21 20) 5 [6,7,8,9,10,11,12,13,14,15,16,17,18,19,20,21,22,23,24,25,26,27],⟨⟨some 22,some (21,false),.op false (.old (.move (.tmp 0)))⟩,6,.none,[8,9,10,11,12,13,14,15,16,17,18,19,20,21,22,23,24,25,26,27],false,true⟩,⟨⟨some 23,some (21,false),.op false (.old (.move (.tmp 3)))⟩,7,.none,[8,9,10,11,12,13,14,15,16,17,18,19,20,21,22,23,24,25,26,27],false,true⟩,⟨⟨some 24,some (21,false),.op false (.ixS 1 (.tmp 22) (.tmp 23))⟩,8,.none,[9,10,11,12,13,14,15,16,17,18,19,20,21,22,23,24,25,26,27],false,true⟩,⟨⟨some 25,some (21,false),.op false (.load1 (.int .i64) (.tmp 24))⟩,9,.blk (.tmp 24),[10,11,12,13,14,15,16,17,18,19,20,21,22,23,24,25,26,27],false,true⟩,⟨⟨some 26,some (21,false),.op false (.old (.binOp .gtr 3 (.tmp 25) (.const (.int .i64 31)) 3))⟩,10,.none,[11,12,13,14,15,16,17,18,19,20,21,22,23,24,25,26,27],false,true⟩,Dr (Ol 27 (.pick (.tmp 21) (.const (.bool true)) (.tmp 26))) 11 [12,13,14,15,16,17,18,19,20,21,22,23,24,25,26,27],Dr (Mv 28 27) 12 [13,14,15,16,17,18,19,20,21,22,23,24,25,26,27],⟨⟨some 29,some (28,false),.op false (.old (.move (.tmp 3)))⟩,13,.none,[14,15,16,17,18,19,20,21,22,23,24,25,26,27],false,true⟩,⟨⟨some 30,some (28,false),.op false (.old (.binOp .gtr 3 (.tmp 29) (.const (.int .i64 0)) 3))⟩,14,.none,[15,16,17,18,19,20,21,22,23,24,25,26,27],false,true⟩,⟨⟨some 31,some (28,false),.op false (.old (.move (.tmp 30)))⟩,15,.none,[16,17,18,19,20,21,22,23,24,25,26,27],false,true⟩,⟨⟨some 32,some (31,true),.op false (.old (.move (.tmp 0)))⟩,16,.none,[18,19,25,26,27],false,true⟩,⟨⟨some 33,some (31,true),.op false (.old (.move (.tmp 3)))⟩,17,.none,[18,19,25,26,27],false,true⟩,⟨⟨some 34,some (31,true),.op false (.ixS 1 (.tmp 32) (.tmp 33))⟩,18,.none,[19,25,26,27],false,true⟩,⟨⟨some 35,some (31,true),.op false (.load1 (.int .i64) (.tmp 34))⟩,19,.blk (.tmp 34),[25,26,27],false,true⟩,⟨⟨some 36,some (31,true),.op false (.old (.move (.tmp 0)))⟩,20,.none,[23,24,25,26,27],false,true⟩,⟨⟨some 37,some (31,true),.op false (.old (.move (.tmp 3)))⟩,21,.none,[22,23,24,25,26,27],false,true⟩,⟨⟨some 38,some (31,true),.op false (.old (.binOp .sub 3 (.tmp 37) (.const (.int .i64 1)) 3))⟩,22,.none,[23,24,25,26,27],false,true⟩,⟨⟨some 39,some (31,true),.op false (.ixS 1 (.tmp 36) (.tmp 38))⟩,23,.none,[24,25,26,27],false,true⟩,⟨⟨some 40,some (31,true),.op false (.load1 (.int .i64) (.tmp 39))⟩,24,.blk (.tmp 39),[25,26,27],false,true⟩,⟨⟨some 41,some (31,true),.op false (.old (.binOp .leq 3 (.tmp 35) (.tmp 40) 3))⟩,25,.none,[26,27],false,true⟩,⟨⟨some 42,some (28,false),.op false (.old (.pick (.tmp 31) (.tmp 41) (.const (.bool false))))⟩,26,.none,[27],false,true⟩,Dr (Ol 43 (.pick (.tmp 28) (.const (.bool true)) (.tmp 42))) 27 []])
 (.cond (.tmp 43) (.seq (.reg (some []) [Ac 2 8])
 .ret)
 .skip)))
 (.reg (some [0,3]) [Mv 14 3,Bc 15 .add 3 14 .i64 1,As 3 15]))⟩)],
 []⟩
theorem r19_ok : resFun (progU ()) hint live 19 Try.f19 = some r19:=by kernel_rfl
def r20 : RFun :=
⟨.seq (.reg (some [0,1]) [Ol 4 (.assign (.const (.bool false)))])
 (.seq (.seq (.reg (some [0,1]) [Mv 6 0,Ro 7 (.lenS (.tmp 6)),Mv 8 1,Ro 9 (.lenS (.tmp 8)),Bt 10 .neq 3 7 9])
 (.cond (.tmp 10) (.seq (.reg (some []) [Ol 4 (.assign (.const (.bool false)))])
 .ret)
 .skip))
 (.seq (.seq (.reg (some [0,1]) [Ac 5 0])
 (.block 0 (.loop 4 (some [0,1,5]) (some [0,1,5]))))
 (.seq (.reg (some []) [Ol 4 (.assign (.const (.bool true)))])
 .ret))),
 [.tmp 4],
 [(4,⟨some [0,1,5],some [0,1,5],.seq (.seq (.reg (some [0,1,5]) [Mv 11 5,Mv 12 0,Ro 13 (.lenS (.tmp 12)),Bt 14 .lss 3 11 13])
 (.cond (.tmp 14) .skip
 (.exit 0 (some []))))
 (.seq (.block 1 (.seq (.draw (some [0,1,5]) 9 [Dr (Mv 17 0) 0 [2,3,8],Dr (Mv 18 5) 1 [2,3,8],Dr (Ix 19 1 17 18) 2 [3,8],Db (L1 20 19) 3 19 [8],Dr (Mv 21 1) 4 [6,7,8],Dr (Mv 22 5) 5 [6,7,8],Dr (Ix 23 1 21 22) 6 [7,8],Db (L1 24 23) 7 23 [8],Dr (Bt 25 .neq 3 20 24) 8 []])
 (.cond (.tmp 25) (.seq (.reg (some []) [Ol 4 (.assign (.const (.bool false)))])
 .ret)
 .skip)))
 (.reg (some [0,1,5]) [Mv 15 5,Bc 16 .add 3 15 .i64 1,As 5 16]))⟩)],
 []⟩
theorem r20_ok : resFun (progU ()) hint live 20 Try.f20 = some r20:=by kernel_rfl
end Go.Proofs.Ytogliemiljhliaa
