import Derived.Test.YtkbgkjlgnmlghaaSeat0
import Derived.Test.YtkbgkjlgnmlghaaSymS
set_option linter.unusedSimpArgs false
set_option linter.unusedVariables false
namespace Go.Proofs.Ytkbgkjlgnmlghaa
open Go.Sim
set_option maxRecDepth 100000
def r2 : RFun :=
⟨.reg (some []) [Ca 0 1 [] (some (.tup []))],
 [],
 [],
 []⟩
def r3 : RFun :=
⟨.seq (.reg (some [0,1,2,3]) [⟨some 5,none,.op true (.box 4 (.tmp 1))⟩,Ol 8 (.assign (.const (.bool false)))])
 (.seq (.seq (.reg (some [0,2,3,5]) [Mv 17 2,Mv 18 3,Ca 19 9 [.tmp 17,.tmp 18] (some (.val (.one .bool)))])
 (.cond (.tmp 19) (.seq (.reg (some []) [Ol 8 (.assign (.const (.bool true)))])
 .ret)
 .skip))
 (.seq (.reg (some [0,2,3,5]) [Mv 21 0,Ro 22 (.load 4 [.int .i64,.int .i64,.int .i64,.int .i64] (.tmp 5)),Ca 23 10 [.tmp 21,.tmp 22] (some (.tup [.one .slice,.one (.int .i64)])),Mv 20 23,Ex 24 20 0,Ex 25 20 1,As 9 24,As 10 25])
 (.seq (.reg (some [0,2,3,5,9,10]) [Mv 27 0,Ro 28 (.load 4 [.int .i64,.int .i64,.int .i64,.int .i64] (.tmp 5)),Ca 29 11 [.tmp 27,.tmp 28] (some (.tup [.one .slice,.one (.int .i64)])),Mv 26 29,Ex 30 26 0,Ex 31 26 1,As 11 30,As 12 31])
 (.seq (.reg (some [0,2,3,9,10,11,12]) [Mv 33 0,Mv 34 2,Mv 35 3,Ca 36 12 [.tmp 33,.tmp 34,.tmp 35] (some (.tup [.one .slice,.one (.int .i64)])),Mv 32 36,Ex 37 32 0,Ex 38 32 1,As 13 37,As 14 38])
 (.seq (.reg (some [0,2,3,9,10,11,12,13,14]) [Mv 40 0,Mv 41 2,Mv 42 3,Ca 43 13 [.tmp 40,.tmp 41,.tmp 42] (some (.tup [.one .slice,.one (.int .i64)])),Mv 39 43,Ex 44 39 0,Ex 45 39 1,As 15 44,As 16 45])
 (.seq (.reg (some [0,2,9,10,11,12,13,14,15,16]) [Mv 46 0,Mv 47 2,Ca 48 14 [.tmp 46,.tmp 47] (some (.val (.one (.int .i64)))),Mv 49 0,Mv 50 2,Ca 51 15 [.tmp 49,.tmp 50] (some (.val (.one (.int .i64)))),Bt 52 .eql 3 48 51,Mv 53 52,⟨some 54,some (53,true),.op false (.old (.move (.tmp 9)))⟩,⟨some 55,some (53,true),.op false (.old (.move (.tmp 11)))⟩,⟨some 56,some (53,true),.call (.func 16) [.tmp 54,.tmp 55] (some (.val (.one .bool)))⟩,Ol 57 (.pick (.tmp 53) (.tmp 56) (.const (.bool false))),Mv 58 57,⟨some 59,some (58,true),.op false (.old (.move (.tmp 10)))⟩,⟨some 60,some (58,true),.op false (.old (.move (.tmp 12)))⟩,⟨some 61,some (58,true),.op false (.old (.binOp .eql 3 (.tmp 59) (.tmp 60) 3))⟩,Ol 62 (.pick (.tmp 58) (.tmp 61) (.const (.bool false))),Mv 63 62,⟨some 64,some (63,true),.op false (.old (.move (.tmp 13)))⟩,⟨some 65,some (63,true),.op false (.old (.move (.tmp 15)))⟩,⟨some 66,some (63,true),.call (.func 17) [.tmp 64,.tmp 65] (some (.val (.one .bool)))⟩,Ol 67 (.pick (.tmp 63) (.tmp 66) (.const (.bool false))),Mv 68 67,⟨some 69,some (68,true),.op false (.old (.move (.tmp 14)))⟩,⟨some 70,some (68,true),.op false (.old (.move (.tmp 16)))⟩,⟨some 71,some (68,true),.op false (.old (.binOp .eql 3 (.tmp 69) (.tmp 70) 3))⟩,Ol 72 (.pick (.tmp 68) (.tmp 71) (.const (.bool false))),As 8 72])
 .ret)))))),
 [.tmp 8],
 [],
 []⟩
def r4 : RFun :=
⟨.seq (.reg (some [0,1,2,3,4]) [⟨some 9,none,.op true (.box 3 (.tmp 4))⟩,Ol 10 (.assign (.const (.bool false)))])
 (.seq (.reg (some [0,1,2,3,9]) [Ca 30 18 [] (some (.val (.one .bool))),As 11 30])
 (.seq (.seq (.reg (some [0,1,2,3,9,11]) [Mv 31 0,Mv 32 1,Mv 33 2,Ca 34 19 [.tmp 31,.tmp 32,.tmp 33] (some (.val (.one .bool))),Ol 35 (.unOp .not 4 (.tmp 34)),Mv 36 35,⟨some 37,some (36,false),.op false (.old (.move (.tmp 0)))⟩,⟨some 38,some (36,false),.op false (.old (.move (.tmp 1)))⟩,⟨some 39,some (36,false),.op false (.old (.move (.tmp 3)))⟩,⟨some 40,some (36,false),.call (.func 19) [.tmp 37,.tmp 38,.tmp 39] (some (.val (.one .bool)))⟩,⟨some 41,some (36,false),.op false (.old (.unOp .not 4 (.tmp 40)))⟩,Ol 42 (.pick (.tmp 36) (.const (.bool true)) (.tmp 41)),Mv 43 42,⟨some 44,some (43,false),.op false (.load 3 [.int .i64,.int .i64,.int .i64] (.tmp 9))⟩,⟨some 45,some (43,false),.call (.func 20) [.tmp 44] (some (.val (.one (.int .i64))))⟩,⟨some 46,some (43,false),.op false (.old (.binOp .neq 3 (.tmp 45) (.const (.int .i64 0)) 3))⟩,Ol 47 (.pick (.tmp 43) (.const (.bool true)) (.tmp 46)),Mv 48 47,⟨some 49,some (48,false),.op false (.old (.move (.tmp 11)))⟩,⟨some 50,some (48,false),.op false (.old (.unOp .not 4 (.tmp 49)))⟩,Ol 51 (.pick (.tmp 48) (.const (.bool true)) (.tmp 50))])
 (.cond (.tmp 51) (.seq (.reg (some [11]) [Mv 52 11,As 10 52])
 .ret)
 .skip))
 (.seq (.reg (some [0,1,2,3,9,11]) [Ol 12 (.assign (.const (.slice none 0 0)))])
 (.seq (.seq (.reg (some [0,1,2,3,9,11,12]) [Ac 13 0])
 (.block 0 (.loop 6 (some [0,1,2,3,9,11,12,13]) (some [0,1,2,3,9,11,12,13]))))
 (.seq (.reg (some [0,1,2,3,9,11,12]) [Mv 96 0,Mv 97 1,Mv 98 2,Ca 99 12 [.tmp 96,.tmp 97,.tmp 98] (some (.tup [.one .slice,.one (.int .i64)])),Mv 95 99,Ex 100 95 0,Ex 101 95 1,As 18 100,As 19 101])
 (.seq (.reg (some [0,1,3,9,11,12,18,19]) [Mv 103 0,Mv 104 1,Mv 105 3,Ca 106 12 [.tmp 103,.tmp 104,.tmp 105] (some (.tup [.one .slice,.one (.int .i64)])),Mv 102 106,Ex 107 102 0,Ex 108 102 1,As 20 107,As 21 108])
 (.seq (.reg (some [0,1,9,11,12,18,19,20,21]) [Mv 110 0,Mv 111 1,Mv 112 12,Ca 113 12 [.tmp 110,.tmp 111,.tmp 112] (some (.tup [.one .slice,.one (.int .i64)])),Mv 109 113,Ex 114 109 0,Ex 115 109 1,As 22 114,As 23 115])
 (.seq (.seq (.reg (some [0,9,11,18,19,20,21,22,23]) [Mv 116 19,Bc 117 .neq 30 116 .i64 0,Mv 118 117,⟨some 119,some (118,false),.op false (.old (.move (.tmp 21)))⟩,⟨some 120,some (118,false),.op false (.old (.binOp .neq 30 (.tmp 119) (.const (.int .i64 0)) 30))⟩,Ol 121 (.pick (.tmp 118) (.const (.bool true)) (.tmp 120)),Mv 122 121,⟨some 123,some (122,false),.op false (.old (.move (.tmp 23)))⟩,⟨some 124,some (122,false),.op false (.old (.binOp .neq 30 (.tmp 123) (.const (.int .i64 0)) 30))⟩,Ol 125 (.pick (.tmp 122) (.const (.bool true)) (.tmp 124))])
 (.cond (.tmp 125) (.seq (.reg (some [11,19,21,23]) [Mv 126 11,Mv 127 126,⟨some 128,some (127,true),.op false (.old (.move (.tmp 19)))⟩,⟨some 129,some (127,true),.op false (.old (.binOp .eql 30 (.tmp 128) (.const (.int .i64 16)) 30))⟩,⟨some 130,some (127,true),.op false (.old (.move (.tmp 129)))⟩,⟨some 131,some (130,false),.op false (.old (.move (.tmp 21)))⟩,⟨some 132,some (130,false),.op false (.old (.binOp .eql 30 (.tmp 131) (.const (.int .i64 16)) 30))⟩,⟨some 133,some (127,true),.op false (.old (.pick (.tmp 130) (.const (.bool true)) (.tmp 132)))⟩,⟨some 134,some (127,true),.op false (.old (.move (.tmp 133)))⟩,⟨some 135,some (134,false),.op false (.old (.move (.tmp 23)))⟩,⟨some 136,some (134,false),.op false (.old (.binOp .eql 30 (.tmp 135) (.const (.int .i64 16)) 30))⟩,⟨some 137,some (127,true),.op false (.old (.pick (.tmp 134) (.const (.bool true)) (.tmp 136)))⟩,Ol 138 (.pick (.tmp 127) (.tmp 137) (.const (.bool false))),As 10 138])
 .ret)
 .skip))
 (.seq (.seq (.reg (some [0,9,11,18,20,22]) [Mv 139 18,Ca 140 23 [.tmp 139] (some (.val (.one (.int .i64)))),Bc 141 .neq 3 140 .i64 0,Mv 142 141,⟨some 143,some (142,false),.op false (.old (.move (.tmp 20)))⟩,⟨some 144,some (142,false),.call (.func 23) [.tmp 143] (some (.val (.one (.int .i64))))⟩,⟨some 145,some (142,false),.op false (.old (.binOp .neq 3 (.tmp 144) (.const (.int .i64 0)) 3))⟩,Ol 146 (.pick (.tmp 142) (.const (.bool true)) (.tmp 145)),Mv 147 146,⟨some 148,some (147,false),.op false (.old (.move (.tmp 22)))⟩,⟨some 149,some (147,false),.call (.func 23) [.tmp 148] (some (.val (.one (.int .i64))))⟩,⟨some 150,some (147,false),.op false (.old (.binOp .neq 3 (.tmp 149) (.const (.int .i64 0)) 3))⟩,Ol 151 (.pick (.tmp 147) (.const (.bool true)) (.tmp 150)),Mv 152 151,⟨some 153,some (152,false),.op false (.old (.move (.tmp 18)))⟩,⟨some 154,some (152,false),.op false (.lenS (.tmp 153))⟩,⟨some 155,some (152,false),.op false (.old (.move (.tmp 0)))⟩,⟨some 156,some (152,false),.op false (.old (.binOp .neq 3 (.tmp 154) (.tmp 155) 3))⟩,Ol 157 (.pick (.tmp 152) (.const (.bool true)) (.tmp 156)),Mv 158 157,⟨some 159,some (158,false),.op false (.old (.move (.tmp 20)))⟩,⟨some 160,some (158,false),.op false (.lenS (.tmp 159))⟩,⟨some 161,some (158,false),.op false (.old (.move (.tmp 0)))⟩,⟨some 162,some (158,false),.op false (.old (.binOp .neq 3 (.tmp 160) (.tmp 161) 3))⟩,Ol 163 (.pick (.tmp 158) (.const (.bool true)) (.tmp 162)),Mv 164 163,⟨some 165,some (164,false),.op false (.old (.move (.tmp 22)))⟩,⟨some 166,some (164,false),.op false (.lenS (.tmp 165))⟩,⟨some 167,some (164,false),.op false (.old (.move (.tmp 0)))⟩,⟨some 168,some (164,false),.op false (.old (.binOp .neq 3 (.tmp 166) (.tmp 167) 3))⟩,Ol 169 (.pick (.tmp 164) (.const (.bool true)) (.tmp 168))])
 (.cond (.tmp 169) (.seq (.reg (some []) [Ol 10 (.assign (.const (.bool false)))])
 .ret)
 .skip))
 (.seq (.seq (.reg (some [0,9,11,18,20,22]) [Ac 24 0])
 (.block 2 (.loop 23 (some [0,9,11,18,20,22,24]) (some [0,9,11,18,20,22,24]))))
 (.seq (.reg (some [11]) [Mv 221 11,As 10 221])
 .ret))))))))))),
 [.tmp 10],
 [(6,⟨some [0,1,2,3,9,11,12,13],some [0,1,2,3,9,11,12,13],.seq (.seq (.reg (some [0,1,2,3,9,11,12,13]) [Mv 53 13,Mv 54 2,Ro 55 (.lenS (.tmp 54)),Bt 56 .lss 3 53 55])
 (.cond (.tmp 56) .skip
 (.exit 0 (some [0,1,2,3,9,11,12]))))
 (.seq (.block 1 (.seq (.draw (some [0,1,2,3,9,11,12,13]) 12 [Db (Ro 60 (.load 3 [.int .i64,.int .i64,.int .i64] (.tmp 9))) 0 9 [5,6,7,8,10,11],Dr (Mv 61 3) 1 [3,4,5,6,7,8,10,11],Dr (Mv 62 13) 2 [3,4,5,6,7,8,10,11],Dr (Ix 63 3 61 62) 3 [4,5,6,7,8,10,11],Db (Ro 64 (.load 3 [.int .i64,.int .i64,.int .i64] (.tmp 63))) 4 63 [5,6,7,8,10,11],⟨⟨some 14,none,.op true (.new 3 [.int .i64 0,.int .i64 0,.int .i64 0])⟩,9,.new true,[10,11],false,true⟩,⟨Ca 65 21 [.tmp 60,.tmp 64] (some (.tup [.agg [.int .i64,.int .i64,.int .i64],.one (.int .i64)])),5,.all,[6,7,8,10,11],false,false⟩,Dr (Mv 59 65) 6 [7,8,10,11],Dr (Ex 66 59 0) 7 [10,11],Dr (Ex 67 59 1) 8 [11],⟨⟨none,none,.op false (.store 3 (.tmp 14) (.tmp 66))⟩,10,.blk (.tmp 14),[11],true,true⟩,Dr (As 15 67) 11 []])
 (.seq (.seq (.reg (some [0,1,2,3,9,11,12,13,14,15]) [Mv 68 15,Bc 69 .neq 30 68 .i64 0])
 (.cond (.tmp 69) (.seq (.reg (some [11,15]) [Mv 70 11,Mv 71 70,⟨some 72,some (71,true),.op false (.old (.move (.tmp 15)))⟩,⟨some 73,some (71,true),.op false (.old (.binOp .eql 30 (.tmp 72) (.const (.int .i64 16)) 30))⟩,Ol 74 (.pick (.tmp 71) (.tmp 73) (.const (.bool false))),As 10 74])
 .ret)
 .skip))
 (.seq (.draw (some [0,1,2,3,9,11,12,13,14]) 12 [Dr (Mv 76 2) 0 [2,3,5,6,7,8,10,11],Dr (Mv 77 13) 1 [2,3,5,6,7,8,10,11],Dr (Ix 78 3 76 77) 2 [3,5,6,7,8,10,11],Db (Ro 79 (.load 3 [.int .i64,.int .i64,.int .i64] (.tmp 78))) 3 78 [5,6,7,8,10,11],Db (Ro 80 (.load 3 [.int .i64,.int .i64,.int .i64] (.tmp 14))) 4 14 [5,6,7,8,10,11],⟨⟨some 16,none,.op true (.new 3 [.int .i64 0,.int .i64 0,.int .i64 0])⟩,9,.new true,[10,11],false,true⟩,⟨Ca 81 22 [.tmp 79,.tmp 80] (some (.tup [.agg [.int .i64,.int .i64,.int .i64],.one (.int .i64)])),5,.all,[6,7,8,10,11],false,false⟩,Dr (Mv 75 81) 6 [7,8,10,11],Dr (Ex 82 75 0) 7 [10,11],Dr (Ex 83 75 1) 8 [11],⟨⟨none,none,.op false (.store 3 (.tmp 16) (.tmp 82))⟩,10,.blk (.tmp 16),[11],true,true⟩,Dr (As 17 83) 11 []])
 (.seq (.seq (.reg (some [0,1,2,3,9,11,12,13,16,17]) [Mv 84 17,Bc 85 .neq 30 84 .i64 0])
 (.cond (.tmp 85) (.seq (.reg (some [11,17]) [Mv 86 11,Mv 87 86,⟨some 88,some (87,true),.op false (.old (.move (.tmp 17)))⟩,⟨some 89,some (87,true),.op false (.old (.binOp .eql 30 (.tmp 88) (.const (.int .i64 16)) 30))⟩,Ol 90 (.pick (.tmp 87) (.tmp 89) (.const (.bool false))),As 10 90])
 .ret)
 .skip))
 (.reg (some [0,1,2,3,9,11,12,13,16]) [Mv 91 12,Ro 92 (.load 3 [.int .i64,.int .i64,.int .i64] (.tmp 16)),Ro 93 (.buildSlice 3 1 [.int .i64 0,.int .i64 0,.int .i64 0] [(0,3,(.tmp 92))]),⟨some 94,none,.op false (.old (.call ⟨.builtin .append,#[.tmp 91,.tmp 93],#[27,27]⟩))⟩,As 12 94]))))))
 (.reg (some [0,1,2,3,9,11,12,13]) [Mv 57 13,Bc 58 .add 3 57 .i64 1,As 13 58]))⟩),(23,⟨some [0,9,11,18,20,22,24],some [0,9,11,18,20,22,24],.seq (.seq (.reg (some [0,9,11,18,20,22,24]) [Mv 170 24,Mv 171 0,Bt 172 .lss 3 170 171])
 (.cond (.tmp 172) .skip
 (.exit 2 (some [11]))))
 (.seq (.block 3 (.seq (.reg (some [0,9,11,18,20,22,24]) [Ac 25 0])
 (.block 4 (.loop 26 (some [0,9,11,18,20,22,24,25]) (some [0,9,11,18,20,22,24,25])))))
 (.reg (some [0,9,11,18,20,22,24]) [Mv 173 24,Bc 174 .add 3 173 .i64 1,As 24 174]))⟩),(26,⟨some [0,9,11,18,20,22,24,25],some [0,9,11,18,20,22,24,25],.seq (.seq (.reg (some [0,9,11,18,20,22,24,25]) [Mv 175 25,Mv 176 0,Bt 177 .lss 3 175 176])
 (.cond (.tmp 177) .skip
 (.exit 4 (some [0,9,11,18,20,22,24]))))
 (.seq (.block 5 (.seq (.draw (some [0,9,11,18,20,22,24,25]) 15 [Db (Ro 181 (.load 3 [.int .i64,.int .i64,.int .i64] (.tmp 9))) 0 9 [8,9,10,11,13,14],Dr (Mv 182 20) 1 [3,4,6,7,8,9,10,11,13,14],Dr (Mv 183 24) 2 [3,4,6,7,8,9,10,11,13,14],Dr (Ix 184 1 182 183) 3 [4,6,7,8,9,10,11,13,14],Db (Ro 185 (.load1 .slice (.tmp 184))) 4 184 [6,7,8,9,10,11,13,14],Dr (Mv 186 25) 5 [6,7,8,9,10,11,13,14],Dr (Ix 187 3 185 186) 6 [7,8,9,10,11,13,14],Db (Ro 188 (.load 3 [.int .i64,.int .i64,.int .i64] (.tmp 187))) 7 187 [8,9,10,11,13,14],⟨⟨some 26,none,.op true (.new 3 [.int .i64 0,.int .i64 0,.int .i64 0])⟩,12,.new true,[13,14],false,true⟩,⟨Ca 189 21 [.tmp 181,.tmp 188] (some (.tup [.agg [.int .i64,.int .i64,.int .i64],.one (.int .i64)])),8,.all,[9,10,11,13,14],false,false⟩,Dr (Mv 180 189) 9 [10,11,13,14],Dr (Ex 190 180 0) 10 [13,14],Dr (Ex 191 180 1) 11 [14],⟨⟨none,none,.op false (.store 3 (.tmp 26) (.tmp 190))⟩,13,.blk (.tmp 26),[14],true,true⟩,Dr (As 27 191) 14 []])
 (.seq (.draw (some [0,9,11,18,20,22,24,25,26,27]) 15 [Dr (Mv 193 18) 0 [2,3,5,6,8,9,10,11,13,14],Dr (Mv 194 24) 1 [2,3,5,6,8,9,10,11,13,14],Dr (Ix 195 1 193 194) 2 [3,5,6,8,9,10,11,13,14],Db (Ro 196 (.load1 .slice (.tmp 195))) 3 195 [5,6,8,9,10,11,13,14],Dr (Mv 197 25) 4 [5,6,8,9,10,11,13,14],Dr (Ix 198 3 196 197) 5 [6,8,9,10,11,13,14],Db (Ro 199 (.load 3 [.int .i64,.int .i64,.int .i64] (.tmp 198))) 6 198 [8,9,10,11,13,14],Db (Ro 200 (.load 3 [.int .i64,.int .i64,.int .i64] (.tmp 26))) 7 26 [8,9,10,11,13,14],⟨⟨some 28,none,.op true (.new 3 [.int .i64 0,.int .i64 0,.int .i64 0])⟩,12,.new true,[13,14],false,true⟩,⟨Ca 201 22 [.tmp 199,.tmp 200] (some (.tup [.agg [.int .i64,.int .i64,.int .i64],.one (.int .i64)])),8,.all,[9,10,11,13,14],false,false⟩,Dr (Mv 192 201) 9 [10,11,13,14],Dr (Ex 202 192 0) 10 [13,14],Dr (Ex 203 192 1) 11 [14],⟨⟨none,none,.op false (.store 3 (.tmp 28) (.tmp 202))⟩,13,.blk (.tmp 28),[14],true,true⟩,Dr (As 29 203) 14 []])
 (.seq (.draw (some [0,9,11,18,20,22,24,25,27,28,29]) 17 [Dr (Mv 204 27) 0 [1,2,3,4,5,6,7,8,9,10,11,12,13,14,15,16],Dr (Bc 205 .eql 30 204 .i64 0) 1 [2,3,4,5,6,7,8,9,10,11,12,13,14,15,16],Dr (Mv 206 205) 2 [3,4,5,6,7,8,9,10,11,12,13,14,15,16],⟨⟨some 207,some (206,true),.op false (.old (.move (.tmp 29)))⟩,3,.none,[4,5,6,7,8,9,10,11,12,13,14,15,16],false,true⟩,⟨⟨some 208,some (206,true),.op false (.old (.binOp .eql 30 (.tmp 207) (.const (.int .i64 0)) 30))⟩,4,.none,[5,6,7,8,9,10,11,12,13,14,15,16],false,true⟩,Dr (Ol 209 (.pick (.tmp 206) (.tmp 208) (.const (.bool false)))) 5 [6,7,8,9,10,11,12,13,14,15,16],Dr (Mv 210 209) 6 [7,8,9,10,11,12,13,14,15,16],⟨⟨some 211,some (210,true),.op false (.load 3 [.int .i64,.int .i64,.int .i64] (.tmp 28))⟩,7,.blk (.tmp 28),[15,16],false,true⟩,⟨⟨some 212,some (210,true),.op false (.old (.move (.tmp 22)))⟩,8,.none,[10,11,13,14,15,16],false,true⟩,⟨⟨some 213,some (210,true),.op false (.old (.move (.tmp 24)))⟩,9,.none,[10,11,13,14,15,16],false,true⟩,⟨⟨some 214,some (210,true),.op false (.ixS 1 (.tmp 212) (.tmp 213))⟩,10,.none,[11,13,14,15,16],false,true⟩,⟨⟨some 215,some (210,true),.op false (.load1 .slice (.tmp 214))⟩,11,.blk (.tmp 214),[13,14,15,16],false,true⟩,⟨⟨some 216,some (210,true),.op false (.old (.move (.tmp 25)))⟩,12,.none,[13,14,15,16],false,true⟩,⟨⟨some 217,some (210,true),.op false (.ixS 3 (.tmp 215) (.tmp 216))⟩,13,.none,[14,15,16],false,true⟩,⟨⟨some 218,some (210,true),.op false (.load 3 [.int .i64,.int .i64,.int .i64] (.tmp 217))⟩,14,.blk (.tmp 217),[15,16],false,true⟩,⟨⟨some 219,some (210,true),.op false (.old (.binOp .neq 46 (.tmp 211) (.tmp 218) 46))⟩,15,.none,[16],false,true⟩,Dr (Ol 220 (.pick (.tmp 210) (.tmp 219) (.const (.bool false)))) 16 []])
 (.cond (.tmp 220) (.seq (.reg (some []) [Ol 10 (.assign (.const (.bool false)))])
 .ret)
 .skip)))))
 (.reg (some [0,9,11,18,20,22,24,25]) [Mv 178 25,Bc 179 .add 3 178 .i64 1,As 25 179]))⟩)],
 []⟩
theorem r4_ok : resFun (progU ()) hint live 4 Try.f4 = some r4:=by kernel_rfl
end Go.Proofs.Ytkbgkjlgnmlghaa
