import Derived.Test.YtnokkniofajnhaaSeat0
import Derived.Test.YtnokkniofajnhaaSymS
set_option linter.unusedSimpArgs false
set_option linter.unusedVariables false
namespace Go.Proofs.Ytnokkniofajnhaa
open Go.Sim
set_option maxRecDepth 100000
def r6 : RFun :=
⟨.seq (.reg (some [0,1,2]) [⟨some 4,none,.op true (.box 2 (.tmp 1))⟩,⟨some 5,none,.op true (.box 2 (.tmp 2))⟩,Ol 6 (.assign (.const (.bool false)))])
 (.seq (.reg (some [0,4,5]) [Ca 21 25 [] (some (.val (.one .bool))),As 7 21])
 (.seq (.seq (.reg (some [0,4,5,7]) [Mv 22 0,Ca 23 26 [.tmp 22] (some (.val (.one .bool))),Ol 24 (.unOp .not 4 (.tmp 23)),Mv 25 24,⟨some 26,some (25,false),.op false (.old (.move (.tmp 7)))⟩,⟨some 27,some (25,false),.op false (.old (.unOp .not 4 (.tmp 26)))⟩,Ol 28 (.pick (.tmp 25) (.const (.bool true)) (.tmp 27))])
 (.cond (.tmp 28) (.seq (.reg (some [7]) [Mv 29 7,As 6 29])
 .ret)
 .skip))
 (.seq (.seq (.reg (some [0,4,5,7]) [Ac 8 0])
 (.block 0 (.loop 5 (some [0,4,5,7,8]) (some [0,4,5,7,8]))))
 (.seq (.reg (some [0,4,5,7]) [Mv 58 0,Ld 59 4,Ca 60 10 [.tmp 58,.tmp 59] (some (.tup [.agg [.int .i64,.int .i64],.one (.int .i64)])),Mv 57 60,Ex 61 57 0,Ex 62 57 1,⟨some 11,none,.op true (.new 2 [.int .i64 0,.int .i64 0])⟩,⟨none,none,.op false (.store 2 (.tmp 11) (.tmp 61))⟩,As 12 62])
 (.seq (.reg (some [0,4,5,7,11,12]) [Mv 64 0,Ld 65 5,Ca 66 10 [.tmp 64,.tmp 65] (some (.tup [.agg [.int .i64,.int .i64],.one (.int .i64)])),Mv 63 66,Ex 67 63 0,Ex 68 63 1,⟨some 13,none,.op true (.new 2 [.int .i64 0,.int .i64 0])⟩,⟨none,none,.op false (.store 2 (.tmp 13) (.tmp 67))⟩,As 14 68])
 (.seq (.seq (.reg (some [0,4,5,7,11,12,13,14]) [Mv 69 12,Bc 70 .neq 26 69 .i64 0])
 (.cond (.tmp 70) (.seq (.reg (some [7]) [Mv 71 7,As 6 71])
 .ret)
 .skip))
 (.seq (.seq (.draw (some [0,4,5,7,11,13,14]) 20 [Dr (Mv 72 14) 0 [1,2,3,4,5,6,7,8,9,10,11,12,13,14,15,16,17,18,19],Dr (Bc 73 .eql 26 72 .i64 0) 1 [2,3,4,5,6,7,8,9,10,11,12,13,14,15,16,17,18,19],Dr (Mv 74 73) 2 [3,4,5,6,7,8,9,10,11,12,13,14,15,16,17,18,19],⟨⟨some 75,some (74,true),.op false (.load 2 [.int .i64,.int .i64] (.tmp 4))⟩,3,.blk (.tmp 4),[5,8,9,10,11,12,13,14,15,16,17,18,19],false,true⟩,⟨⟨some 76,some (74,true),.op false (.load 2 [.int .i64,.int .i64] (.tmp 5))⟩,4,.blk (.tmp 5),[5,8,9,10,11,12,13,14,15,16,17,18,19],false,true⟩,⟨⟨some 78,some (74,true),.op false (.load 2 [.int .i64,.int .i64] (.tmp 11))⟩,6,.blk (.tmp 11),[8,9,10,11,12,13,14,15,16,17,18,19],false,true⟩,⟨⟨some 79,some (74,true),.op false (.load 2 [.int .i64,.int .i64] (.tmp 13))⟩,7,.blk (.tmp 13),[8,9,10,11,12,13,14,15,16,17,18,19],false,true⟩,⟨⟨some 77,some (74,true),.call (.func 27) [.tmp 75,.tmp 76] (some (.val (.one .bool)))⟩,5,.all,[8,9,10,11,12,13,14,15,16,17,18,19],false,false⟩,⟨⟨some 80,some (74,true),.call (.func 27) [.tmp 78,.tmp 79] (some (.val (.one .bool)))⟩,8,.all,[9,10,11,12,13,14,15,16,17,18,19],false,false⟩,⟨⟨some 81,some (74,true),.op false (.old (.binOp .neq 4 (.tmp 77) (.tmp 80) 4))⟩,9,.none,[10,11,12,13,14,15,16,17,18,19],false,true⟩,⟨⟨some 82,some (74,true),.op false (.old (.move (.tmp 81)))⟩,10,.none,[11,12,13,14,15,16,17,18,19],false,true⟩,⟨⟨some 83,some (82,false),.op false (.load 2 [.int .i64,.int .i64] (.tmp 4))⟩,11,.blk (.tmp 4),[13,17,18,19],false,true⟩,⟨⟨some 84,some (82,false),.op false (.load 2 [.int .i64,.int .i64] (.tmp 5))⟩,12,.blk (.tmp 5),[13,17,18,19],false,true⟩,⟨⟨some 85,some (82,false),.op false (.old (.binOp .eql 24 (.tmp 83) (.tmp 84) 24))⟩,13,.none,[17,18,19],false,true⟩,⟨⟨some 86,some (82,false),.op false (.load 2 [.int .i64,.int .i64] (.tmp 11))⟩,14,.blk (.tmp 11),[16,17,18,19],false,true⟩,⟨⟨some 87,some (82,false),.op false (.load 2 [.int .i64,.int .i64] (.tmp 13))⟩,15,.blk (.tmp 13),[16,17,18,19],false,true⟩,⟨⟨some 88,some (82,false),.op false (.old (.binOp .eql 24 (.tmp 86) (.tmp 87) 24))⟩,16,.none,[17,18,19],false,true⟩,⟨⟨some 89,some (82,false),.op false (.old (.binOp .neq 4 (.tmp 85) (.tmp 88) 4))⟩,17,.none,[18,19],false,true⟩,⟨⟨some 90,some (74,true),.op false (.old (.pick (.tmp 82) (.const (.bool true)) (.tmp 89)))⟩,18,.none,[19],false,true⟩,Dr (Ol 91 (.pick (.tmp 74) (.tmp 90) (.const (.bool false)))) 19 []])
 (.cond (.tmp 91) (.seq (.reg (some []) [Ol 6 (.assign (.const (.bool false)))])
 .ret)
 .skip))
 (.seq (.reg (some [0,4,7,11]) [Mv 93 0,Ca 94 12 [.tmp 93] (some (.tup [.one .slice,.one (.int .i64)])),Mv 92 94,Ex 95 92 0,Ex 96 92 1,As 15 95,As 16 96])
 (.seq (.reg (some [0,4,7,11,15,16]) [Mv 98 15,Ca 99 12 [.tmp 98] (some (.tup [.one .slice,.one (.int .i64)])),Mv 97 99,Ex 100 97 0,Ex 101 97 1,As 17 100,As 18 101])
 (.seq (.seq (.reg (some [0,4,7,11,15,16,17,18]) [Mv 102 16,Bc 103 .neq 26 102 .i64 0,Mv 104 103,⟨some 105,some (104,false),.op false (.old (.move (.tmp 18)))⟩,⟨some 106,some (104,false),.op false (.old (.binOp .neq 26 (.tmp 105) (.const (.int .i64 0)) 26))⟩,Ol 107 (.pick (.tmp 104) (.const (.bool true)) (.tmp 106)),Mv 108 107,⟨some 109,some (108,false),.op false (.old (.move (.tmp 17)))⟩,⟨some 110,some (108,false),.op false (.old (.move (.tmp 0)))⟩,⟨some 111,some (108,false),.call (.func 16) [.tmp 109,.tmp 110] (some (.val (.one .bool)))⟩,⟨some 112,some (108,false),.op false (.old (.unOp .not 4 (.tmp 111)))⟩,Ol 113 (.pick (.tmp 108) (.const (.bool true)) (.tmp 112)),Mv 114 113,⟨some 115,some (114,false),.op false (.load 2 [.int .i64,.int .i64] (.tmp 11))⟩,⟨some 116,some (114,false),.call (.func 28) [.tmp 115] (some (.val (.one (.int .i64))))⟩,⟨some 117,some (114,false),.op false (.old (.binOp .neq 3 (.tmp 116) (.const (.int .i64 0)) 3))⟩,Ol 118 (.pick (.tmp 114) (.const (.bool true)) (.tmp 117))])
 (.cond (.tmp 118) (.seq (.reg (some []) [Ol 6 (.assign (.const (.bool false)))])
 .ret)
 .skip))
 (.seq (.reg (some [4,7,11,15]) [Mv 120 15,Ld 121 11,Ca 122 10 [.tmp 120,.tmp 121] (some (.tup [.agg [.int .i64,.int .i64],.one (.int .i64)])),Mv 119 122,Ex 123 119 0,Ex 124 119 1,⟨some 19,none,.op true (.new 2 [.int .i64 0,.int .i64 0])⟩,⟨none,none,.op false (.store 2 (.tmp 19) (.tmp 123))⟩,As 20 124])
 (.seq (.reg (some [4,7,11,19,20]) [Mv 125 7,Mv 126 125,⟨some 127,some (126,true),.op false (.old (.move (.tmp 20)))⟩,⟨some 128,some (126,true),.op false (.old (.binOp .eql 26 (.tmp 127) (.const (.int .i64 0)) 26))⟩,⟨some 129,some (126,true),.op false (.old (.move (.tmp 128)))⟩,⟨some 130,some (129,true),.op false (.load 2 [.int .i64,.int .i64] (.tmp 19))⟩,⟨some 131,some (129,true),.op false (.load 2 [.int .i64,.int .i64] (.tmp 4))⟩,⟨some 132,some (129,true),.op false (.old (.binOp .eql 24 (.tmp 130) (.tmp 131) 24))⟩,⟨some 133,some (126,true),.op false (.old (.pick (.tmp 129) (.tmp 132) (.const (.bool false))))⟩,⟨some 134,some (126,true),.op false (.old (.move (.tmp 133)))⟩,⟨some 135,some (134,false),.op false (.old (.move (.tmp 20)))⟩,⟨some 136,some (134,false),.op false (.old (.binOp .eql 26 (.tmp 135) (.const (.int .i64 16)) 26))⟩,⟨some 137,some (134,false),.op false (.old (.move (.tmp 136)))⟩,⟨some 138,some (137,true),.op false (.load 2 [.int .i64,.int .i64] (.tmp 11))⟩,⟨some 139,some (137,true),.call (.func 29) [.tmp 138,.const (.int .i64 10000)] (some (.val (.one .bool)))⟩,⟨some 140,some (137,true),.op false (.old (.unOp .not 4 (.tmp 139)))⟩,⟨some 141,some (134,false),.op false (.old (.pick (.tmp 137) (.tmp 140) (.const (.bool false))))⟩,⟨some 142,some (126,true),.op false (.old (.pick (.tmp 134) (.const (.bool true)) (.tmp 141)))⟩,Ol 143 (.pick (.tmp 126) (.tmp 142) (.const (.bool false))),As 6 143])
 .ret)))))))))))),
 [.tmp 6],
 [(5,⟨some [0,4,5,7,8],some [0,4,5,7,8],.seq (.seq (.reg (some [0,4,5,7,8]) [Mv 30 8,Mv 31 0,Ro 32 (.lenS (.tmp 31)),Bt 33 .lss 3 30 32])
 (.cond (.tmp 33) .skip
 (.exit 0 (some [0,4,5,7]))))
 (.seq (.block 1 (.seq (.reg (some [0,4,5,7,8]) [Mv 37 0,Mv 38 0,Mv 39 8,Ix 40 4 38 39,Fa 41 0 40,Ld 42 41,Ca 43 10 [.tmp 37,.tmp 42] (some (.tup [.agg [.int .i64,.int .i64],.one (.int .i64)])),Mv 36 43,Ex 44 36 0,Ex 45 36 1,⟨some 9,none,.op true (.new 2 [.int .i64 0,.int .i64 0])⟩,⟨none,none,.op false (.store 2 (.tmp 9) (.tmp 44))⟩,As 10 45])
 (.seq (.draw (some [0,4,5,7,8,9,10]) 11 [Dr (Mv 46 10) 0 [1,2,3,4,5,6,7,8,9,10],Dr (Bc 47 .neq 26 46 .i64 0) 1 [2,3,4,5,6,7,8,9,10],Dr (Mv 48 47) 2 [3,4,5,6,7,8,9,10],⟨⟨some 49,some (48,false),.op false (.load 2 [.int .i64,.int .i64] (.tmp 9))⟩,3,.blk (.tmp 9),[9,10],false,true⟩,⟨⟨some 50,some (48,false),.op false (.old (.move (.tmp 0)))⟩,4,.none,[6,7,8,9,10],false,true⟩,⟨⟨some 51,some (48,false),.op false (.old (.move (.tmp 8)))⟩,5,.none,[6,7,8,9,10],false,true⟩,⟨⟨some 52,some (48,false),.op false (.ixS 4 (.tmp 50) (.tmp 51))⟩,6,.none,[7,8,9,10],false,true⟩,⟨⟨some 53,some (48,false),.op false (.fieldAddr 2 (.tmp 52))⟩,7,.none,[8,9,10],false,true⟩,⟨⟨some 54,some (48,false),.op false (.load 2 [.int .i64,.int .i64] (.tmp 53))⟩,8,.blk (.tmp 53),[9,10],false,true⟩,⟨⟨some 55,some (48,false),.op false (.old (.binOp .neq 24 (.tmp 49) (.tmp 54) 24))⟩,9,.none,[10],false,true⟩,Dr (Ol 56 (.pick (.tmp 48) (.const (.bool true)) (.tmp 55))) 10 []])
 (.cond (.tmp 56) (.seq (.reg (some []) [Ol 6 (.assign (.const (.bool false)))])
 .ret)
 .skip))))
 (.reg (some [0,4,5,7,8]) [Mv 34 8,Bc 35 .add 3 34 .i64 1,As 8 35]))⟩)],
 []⟩
def r7 : RFun :=
⟨.seq (.reg (some [0,1,2]) [⟨some 5,none,.op true (.box 2 (.tmp 2))⟩,Ol 6 (.assign (.const (.bool false)))])
 (.seq (.reg (some [0,1,5]) [Ca 22 25 [] (some (.val (.one .bool))),As 7 22])
 (.seq (.seq (.reg (some [0,1,5,7]) [Mv 23 0,Ca 24 26 [.tmp 23] (some (.val (.one .bool))),Ol 25 (.unOp .not 4 (.tmp 24)),Mv 26 25,⟨some 27,some (26,false),.op false (.old (.move (.tmp 1)))⟩,⟨some 28,some (26,false),.call (.func 26) [.tmp 27] (some (.val (.one .bool)))⟩,⟨some 29,some (26,false),.op false (.old (.unOp .not 4 (.tmp 28)))⟩,Ol 30 (.pick (.tmp 26) (.const (.bool true)) (.tmp 29)),Mv 31 30,⟨some 32,some (31,false),.op false (.old (.move (.tmp 7)))⟩,⟨some 33,some (31,false),.op false (.old (.unOp .not 4 (.tmp 32)))⟩,Ol 34 (.pick (.tmp 31) (.const (.bool true)) (.tmp 33))])
 (.cond (.tmp 34) (.seq (.reg (some [7]) [Mv 35 7,As 6 35])
 .ret)
 .skip))
 (.seq (.reg (some [0,1,5,7]) [Mv 37 0,Ld 38 5,Ca 39 10 [.tmp 37,.tmp 38] (some (.tup [.agg [.int .i64,.int .i64],.one (.int .i64)])),Mv 36 39,Ex 40 36 0,Ex 41 36 1,⟨some 8,none,.op true (.new 2 [.int .i64 0,.int .i64 0])⟩,⟨none,none,.op false (.store 2 (.tmp 8) (.tmp 40))⟩,As 9 41])
 (.seq (.reg (some [0,1,5,7,8,9]) [Mv 43 1,Ld 44 8,Ca 45 10 [.tmp 43,.tmp 44] (some (.tup [.agg [.int .i64,.int .i64],.one (.int .i64)])),Mv 42 45,Ex 46 42 0,Ex 47 42 1,⟨some 10,none,.op true (.new 2 [.int .i64 0,.int .i64 0])⟩,⟨none,none,.op false (.store 2 (.tmp 10) (.tmp 46))⟩,As 11 47])
 (.seq (.reg (some [0,1,5,7,9,10,11]) [Mv 49 0,Mv 50 1,Ca 51 17 [.tmp 49,.tmp 50] (some (.tup [.one .slice,.one (.int .i64)])),Mv 48 51,Ex 52 48 0,Ex 53 48 1,As 12 52,As 13 53])
 (.seq (.seq (.reg (some [0,5,7,9,10,11,12,13]) [Mv 54 13,Bc 55 .eql 26 54 .i64 0,Mv 56 55,⟨some 57,some (56,true),.op false (.old (.move (.tmp 9)))⟩,⟨some 58,some (56,true),.op false (.old (.binOp .eql 26 (.tmp 57) (.const (.int .i64 0)) 26))⟩,Ol 59 (.pick (.tmp 56) (.tmp 58) (.const (.bool false))),Mv 60 59,⟨some 61,some (60,true),.op false (.old (.move (.tmp 11)))⟩,⟨some 62,some (60,true),.op false (.old (.binOp .eql 26 (.tmp 61) (.const (.int .i64 0)) 26))⟩,Ol 63 (.pick (.tmp 60) (.tmp 62) (.const (.bool false)))])
 (.cond (.tmp 63) (.seq (.reg (some [0,5,7,9,10,12]) [Mv 65 12,Ld 66 5,Ca 67 10 [.tmp 65,.tmp 66] (some (.tup [.agg [.int .i64,.int .i64],.one (.int .i64)])),Mv 64 67,Ex 68 64 0,Ex 69 64 1,⟨some 14,none,.op true (.new 2 [.int .i64 0,.int .i64 0])⟩,⟨none,none,.op false (.store 2 (.tmp 14) (.tmp 68))⟩,As 15 69])
 (.seq (.reg (some [0,5,7,9,10,12,14,15]) [Mv 70 15,Bc 71 .neq 26 70 .i64 0,Mv 72 71,⟨some 73,some (72,false),.op false (.load 2 [.int .i64,.int .i64] (.tmp 14))⟩,⟨some 74,some (72,false),.op false (.load 2 [.int .i64,.int .i64] (.tmp 10))⟩,⟨some 75,some (72,false),.op false (.old (.binOp .neq 24 (.tmp 73) (.tmp 74) 24))⟩,Ol 76 (.pick (.tmp 72) (.const (.bool true)) (.tmp 75)),Mv 77 76,⟨some 78,some (77,false),.op false (.old (.move (.tmp 12)))⟩,⟨some 79,some (77,false),.call (.func 15) [.tmp 78] (some (.val (.one (.int .i64))))⟩,⟨some 80,some (77,false),.op false (.old (.binOp .neq 3 (.tmp 79) (.const (.int .i64 0)) 3))⟩,Ol 81 (.pick (.tmp 77) (.const (.bool true)) (.tmp 80))])
 (.cond (.tmp 81) (.seq (.reg (some []) [Ol 6 (.assign (.const (.bool false)))])
 .ret)
 .skip)))
 .skip))
 (.seq (.reg (some [0,5,7,9]) [Mv 83 0,Ca 84 12 [.tmp 83] (some (.tup [.one .slice,.one (.int .i64)])),Mv 82 84,Ex 85 82 0,Ex 86 82 1,As 16 85,As 17 86])
 (.seq (.reg (some [0,5,7,9,16,17]) [Mv 88 0,Mv 89 16,Ca 90 17 [.tmp 88,.tmp 89] (some (.tup [.one .slice,.one (.int .i64)])),Mv 87 90,Ex 91 87 0,Ex 92 87 1,As 18 91,As 19 92])
 (.seq (.seq (.reg (some [5,7,9,17,18,19]) [Mv 93 17,Bc 94 .neq 26 93 .i64 0,Mv 95 94,⟨some 96,some (95,false),.op false (.old (.move (.tmp 19)))⟩,⟨some 97,some (95,false),.op false (.old (.binOp .neq 26 (.tmp 96) (.const (.int .i64 0)) 26))⟩,Ol 98 (.pick (.tmp 95) (.const (.bool true)) (.tmp 97)),Mv 99 98,⟨some 100,some (99,false),.op false (.old (.move (.tmp 9)))⟩,⟨some 101,some (99,false),.op false (.old (.binOp .neq 26 (.tmp 100) (.const (.int .i64 0)) 26))⟩,Ol 102 (.pick (.tmp 99) (.const (.bool true)) (.tmp 101))])
 (.cond (.tmp 102) (.seq (.reg (some [7,17,19]) [Mv 103 7,Mv 104 103,⟨some 105,some (104,true),.op false (.old (.move (.tmp 17)))⟩,⟨some 106,some (104,true),.op false (.old (.binOp .eql 26 (.tmp 105) (.const (.int .i64 0)) 26))⟩,Ol 107 (.pick (.tmp 104) (.tmp 106) (.const (.bool false))),Mv 108 107,⟨some 109,some (108,true),.op false (.old (.move (.tmp 19)))⟩,⟨some 110,some (108,true),.op false (.old (.binOp .eql 26 (.tmp 109) (.const (.int .i64 0)) 26))⟩,Ol 111 (.pick (.tmp 108) (.tmp 110) (.const (.bool false))),As 6 111])
 .ret)
 .skip))
 (.seq (.reg (some [5,7,18]) [Mv 113 18,Ld 114 5,Ca 115 10 [.tmp 113,.tmp 114] (some (.tup [.agg [.int .i64,.int .i64],.one (.int .i64)])),Mv 112 115,Ex 116 112 0,Ex 117 112 1,⟨some 20,none,.op true (.new 2 [.int .i64 0,.int .i64 0])⟩,⟨none,none,.op false (.store 2 (.tmp 20) (.tmp 116))⟩,As 21 117])
 (.seq (.reg (some [5,7,20,21]) [Mv 118 7,Mv 119 118,⟨some 120,some (119,true),.op false (.old (.move (.tmp 21)))⟩,⟨some 121,some (119,true),.op false (.old (.binOp .eql 26 (.tmp 120) (.const (.int .i64 0)) 26))⟩,Ol 122 (.pick (.tmp 119) (.tmp 121) (.const (.bool false))),Mv 123 122,⟨some 124,some (123,true),.op false (.load 2 [.int .i64,.int .i64] (.tmp 20))⟩,⟨some 125,some (123,true),.op false (.load 2 [.int .i64,.int .i64] (.tmp 5))⟩,⟨some 126,some (123,true),.op false (.old (.binOp .eql 24 (.tmp 124) (.tmp 125) 24))⟩,Ol 127 (.pick (.tmp 123) (.tmp 126) (.const (.bool false))),As 6 127])
 .ret))))))))))),
 [.tmp 6],
 [],
 []⟩
def r9 : RFun :=
⟨.seq (.reg (some [0]) [Ol 2 (.assign (.const (.bool false)))])
 (.seq (.reg (some [0]) [Mv 3 0,Ro 4 (.lenS (.tmp 3)),Bc 5 .gtr 3 4 .i64 60,As 2 5])
 .ret),
 [.tmp 2],
 [],
 []⟩
theorem r9_ok : resFun (progU ()) hint live 9 Try.f9 = some r9:=by kernel_rfl
def r10 : RFun :=
⟨.seq (.reg (some [0,1]) [⟨some 3,none,.op true (.box 2 (.tmp 1))⟩,⟨some 4,none,.op true (.new 2 [.int .i64 0,.int .i64 0])⟩,Ac 5 0])
 (.seq (.seq (.reg (some [0,3,4]) [Mv 7 0,Ca 8 14 [.tmp 7] (some (.val (.one (.int .i64)))),As 6 8])
 (.seq (.reg (some [0,3,4,6]) [Mv 9 6,Bc 10 .neq 26 9 .i64 0])
 (.cond (.tmp 10) (.seq (.reg (some [4,6]) [Ro 11 (.build [.int .i64 0,.int .i64 0] []),Mv 12 6,⟨none,none,.op false (.store 2 (.tmp 4) (.tmp 11))⟩,As 5 12])
 .ret)
 .skip)))
 (.seq (.seq (.reg (some [0,3,4]) [Ld 13 3,Ca 14 32 [.tmp 13] (some (.val (.one (.int .i64)))),Bc 15 .neq 26 14 .i64 0])
 (.cond (.tmp 15) (.seq (.reg (some [4]) [Ro 16 (.build [.int .i64 0,.int .i64 0] []),⟨none,none,.op false (.store 2 (.tmp 4) (.tmp 16))⟩,Ac 5 8])
 .ret)
 .skip))
 (.seq (.seq (.reg (some [0,3,4]) [Ld 17 3,Ca 18 33 [.tmp 17,.const (.int .i64 10000)] (some (.val (.one .bool))),Ol 19 (.unOp .not 4 (.tmp 18))])
 (.cond (.tmp 19) (.seq (.reg (some [4]) [Ro 20 (.build [.int .i64 0,.int .i64 0] []),⟨none,none,.op false (.store 2 (.tmp 4) (.tmp 20))⟩,Ac 5 16])
 .ret)
 .skip))
 (.seq (.seq (.draw (some [0,3,4]) 19 [Db (Ld 21 3) 0 3 [5,6,7,8,9,10,11,12,13,14,15,16,17,18],Dr (Mv 22 0) 1 [2,3,4,5,6,7,8,9,10,11,12,13,14,15,16,17,18],Dr (Ro 23 (.ixS 4 (.tmp 22) (.const (.int .i64 0)))) 2 [3,4,5,6,7,8,9,10,11,12,13,14,15,16,17,18],Dr (Fa 24 0 23) 3 [4,5,6,7,8,9,10,11,12,13,14,15,16,17,18],Db (Ld 25 24) 4 24 [5,6,7,8,9,10,11,12,13,14,15,16,17,18],⟨Ca 26 34 [.tmp 21,.tmp 25] (some (.val (.one (.int .i64)))),5,.all,[6,7,8,9,10,11,12,13,14,15,16,17,18],false,false⟩,Dr (Bc 27 .lss 3 26 .i64 0) 6 [7,8,9,10,11,12,13,14,15,16,17,18],Dr (Mv 28 27) 7 [8,9,10,11,12,13,14,15,16,17,18],⟨⟨some 29,some (28,false),.op false (.load 2 [.int .i64,.int .i64] (.tmp 3))⟩,8,.blk (.tmp 3),[16,17,18],false,true⟩,⟨⟨some 30,some (28,false),.op false (.old (.move (.tmp 0)))⟩,9,.none,[13,14,15,16,17,18],false,true⟩,⟨⟨some 31,some (28,false),.op false (.old (.move (.tmp 0)))⟩,10,.none,[11,12,13,14,15,16,17,18],false,true⟩,⟨⟨some 32,some (28,false),.op false (.lenS (.tmp 31))⟩,11,.none,[12,13,14,15,16,17,18],false,true⟩,⟨⟨some 33,some (28,false),.op false (.old (.binOp .sub 3 (.tmp 32) (.const (.int .i64 1)) 3))⟩,12,.none,[13,14,15,16,17,18],false,true⟩,⟨⟨some 34,some (28,false),.op false (.ixS 4 (.tmp 30) (.tmp 33))⟩,13,.none,[14,15,16,17,18],false,true⟩,⟨⟨some 35,some (28,false),.op false (.fieldAddr 0 (.tmp 34))⟩,14,.none,[15,16,17,18],false,true⟩,⟨⟨some 36,some (28,false),.op false (.load 2 [.int .i64,.int .i64] (.tmp 35))⟩,15,.blk (.tmp 35),[16,17,18],false,true⟩,⟨⟨some 37,some (28,false),.call (.func 34) [.tmp 29,.tmp 36] (some (.val (.one (.int .i64))))⟩,16,.all,[17,18],false,false⟩,⟨⟨some 38,some (28,false),.op false (.old (.binOp .gtr 3 (.tmp 37) (.const (.int .i64 0)) 3))⟩,17,.none,[18],false,true⟩,Dr (Ol 39 (.pick (.tmp 28) (.const (.bool true)) (.tmp 38))) 18 []])
 (.cond (.tmp 39) (.seq (.reg (some [4]) [Ro 40 (.build [.int .i64 0,.int .i64 0] []),⟨none,none,.op false (.store 2 (.tmp 4) (.tmp 40))⟩,Ac 5 6])
 .ret)
 .skip))
 (.seq (.reg (some [0,3,4]) [Mv 41 0,Ld 42 3,Ca 43 35 [.tmp 41,.tmp 42] (some (.tup [.agg [.int .i64,.int .i64],.one (.int .i64)])),Ex 44 43 0,Ex 45 43 1,⟨none,none,.op false (.store 2 (.tmp 4) (.tmp 44))⟩,As 5 45])
 .ret))))),
 [.agg 4 2 [.int .i64,.int .i64],.tmp 5],
 [],
 []⟩
theorem r10_ok : resFun (progU ()) hint live 10 Try.f10 = some r10:=by kernel_rfl
def r11 : RFun :=
⟨.seq (.reg (some [0,1]) [⟨some 3,none,.op true (.box 2 (.tmp 1))⟩,⟨some 4,none,.op true (.new 2 [.int .i64 0,.int .i64 0])⟩,Ac 5 0])
 (.seq (.seq (.reg (some [0,3,4]) [Mv 6 0,Ca 7 15 [.tmp 6] (some (.val (.one (.int .i64)))),Bc 8 .neq 3 7 .i64 0])
 (.cond (.tmp 8) (.seq (.reg (some [0,4]) [Ro 9 (.build [.int .i64 0,.int .i64 0] []),Mv 10 0,Ca 11 15 [.tmp 10] (some (.val (.one (.int .i64)))),⟨none,none,.op false (.store 2 (.tmp 4) (.tmp 9))⟩,As 5 11])
 .ret)
 .skip))
 (.seq (.seq (.reg (some [0,3,4]) [Ld 12 3,Ca 13 28 [.tmp 12] (some (.val (.one (.int .i64)))),Bc 14 .neq 3 13 .i64 0])
 (.cond (.tmp 14) (.seq (.reg (some [4]) [Ro 15 (.build [.int .i64 0,.int .i64 0] []),⟨none,none,.op false (.store 2 (.tmp 4) (.tmp 15))⟩,Ac 5 8])
 .ret)
 .skip))
 (.seq (.seq (.reg (some [0,3,4]) [Ld 16 3,Ca 17 29 [.tmp 16,.const (.int .i64 10000)] (some (.val (.one .bool))),Ol 18 (.unOp .not 4 (.tmp 17))])
 (.cond (.tmp 18) (.seq (.reg (some [4]) [Ro 19 (.build [.int .i64 0,.int .i64 0] []),⟨none,none,.op false (.store 2 (.tmp 4) (.tmp 19))⟩,Ac 5 16])
 .ret)
 .skip))
 (.seq (.seq (.draw (some [0,3,4]) 17 [Db (Ld 20 3) 0 3 [5,6,7,8,9,10,11,12,13,14,15,16],Dr (Mv 21 0) 1 [2,3,4,5,6,7,8,9,10,11,12,13,14,15,16],Dr (Ro 22 (.ixS 4 (.tmp 21) (.const (.int .i64 0)))) 2 [3,4,5,6,7,8,9,10,11,12,13,14,15,16],Dr (Fa 23 0 22) 3 [4,5,6,7,8,9,10,11,12,13,14,15,16],Db (Ld 24 23) 4 23 [5,6,7,8,9,10,11,12,13,14,15,16],⟨Ca 25 27 [.tmp 20,.tmp 24] (some (.val (.one .bool))),5,.all,[6,7,8,9,10,11,12,13,14,15,16],false,false⟩,Dr (Mv 26 25) 6 [7,8,9,10,11,12,13,14,15,16],⟨⟨some 27,some (26,false),.op false (.old (.move (.tmp 0)))⟩,7,.none,[11,12,13,15,16],false,true⟩,⟨⟨some 28,some (26,false),.op false (.old (.move (.tmp 0)))⟩,8,.none,[9,10,11,12,13,15,16],false,true⟩,⟨⟨some 29,some (26,false),.op false (.lenS (.tmp 28))⟩,9,.none,[10,11,12,13,15,16],false,true⟩,⟨⟨some 30,some (26,false),.op false (.old (.binOp .sub 3 (.tmp 29) (.const (.int .i64 1)) 3))⟩,10,.none,[11,12,13,15,16],false,true⟩,⟨⟨some 31,some (26,false),.op false (.ixS 4 (.tmp 27) (.tmp 30))⟩,11,.none,[12,13,15,16],false,true⟩,⟨⟨some 32,some (26,false),.op false (.fieldAddr 0 (.tmp 31))⟩,12,.none,[13,15,16],false,true⟩,⟨⟨some 33,some (26,false),.op false (.load 2 [.int .i64,.int .i64] (.tmp 32))⟩,13,.blk (.tmp 32),[15,16],false,true⟩,⟨⟨some 34,some (26,false),.op false (.load 2 [.int .i64,.int .i64] (.tmp 3))⟩,14,.blk (.tmp 3),[15,16],false,true⟩,⟨⟨some 35,some (26,false),.call (.func 27) [.tmp 33,.tmp 34] (some (.val (.one .bool)))⟩,15,.all,[16],false,false⟩,Dr (Ol 36 (.pick (.tmp 26) (.const (.bool true)) (.tmp 35))) 16 []])
 (.cond (.tmp 36) (.seq (.reg (some [4]) [Ro 37 (.build [.int .i64 0,.int .i64 0] []),⟨none,none,.op false (.store 2 (.tmp 4) (.tmp 37))⟩,Ac 5 6])
 .ret)
 .skip))
 (.seq (.reg (some [0,3,4]) [Mv 38 0,Ld 39 3,Ca 40 36 [.tmp 38,.tmp 39] (some (.val (.agg [.int .i64,.int .i64]))),⟨none,none,.op false (.store 2 (.tmp 4) (.tmp 40))⟩,Ac 5 0])
 .ret))))),
 [.agg 4 2 [.int .i64,.int .i64],.tmp 5],
 [],
 []⟩
theorem r11_ok : resFun (progU ()) hint live 11 Try.f11 = some r11:=by kernel_rfl
def r14 : RFun :=
⟨.seq (.reg (some [0]) [Ac 2 0])
 (.seq (.seq (.reg (some [0]) [Mv 5 0,Ro 6 (.lenS (.tmp 5)),Bc 7 .gtr 3 6 .i64 40])
 (.cond (.tmp 7) (.seq (.reg (some []) [Ac 2 4])
 .ret)
 .skip))
 (.seq (.seq (.reg (some [0]) [Mv 8 0,Ro 9 (.lenS (.tmp 8)),Bc 10 .lss 3 9 .i64 2])
 (.cond (.tmp 10) (.seq (.reg (some []) [Ac 2 8])
 .ret)
 .skip))
 (.seq (.seq (.reg (some [0]) [Mv 11 0,Ro 12 (.lenS (.tmp 11)),Ol 13 (.move (.const (.int .i64 0)))])
 (.block 0 (.loop 6 (some [0,11,12,13]) (some [0,11,12,13]))))
 (.seq (.reg (some []) [Ac 2 0])
 .ret)))),
 [.tmp 2],
 [(6,⟨some [0,11,12,13],some [0,11,12,13],.seq (.reg (some [0,11,12,13]) [Bt 14 .lss 3 13 12])
 (.seq (.cond (.tmp 14) .skip
 (.exit 0 (some [])))
 (.seq (.block 1 (.seq (.reg (some [0,11,12,13]) [Mv 15 13,Ix 16 4 11 13,Ro 17 (.load 4 [.int .i64,.int .i64,.int .i64,.int .i64] (.tmp 16)),⟨some 4,none,.op true (.new 4 [.int .i64 0,.int .i64 0,.int .i64 0,.int .i64 0])⟩,As 3 15,⟨none,none,.op false (.store 4 (.tmp 4) (.tmp 17))⟩])
 (.seq (.seq (.reg (some [0,3,4,11,12,13]) [Fa 18 0 4,Ld 19 18,Ca 20 33 [.tmp 19,.const (.int .i64 100)] (some (.val (.one .bool))),Ol 21 (.unOp .not 4 (.tmp 20)),Mv 22 21,⟨some 23,some (22,false),.op false (.fieldAddr 2 (.tmp 4))⟩,⟨some 24,some (22,false),.op false (.load 2 [.int .i64,.int .i64] (.tmp 23))⟩,⟨some 25,some (22,false),.call (.func 33) [.tmp 24,.const (.int .i64 100)] (some (.val (.one .bool)))⟩,⟨some 26,some (22,false),.op false (.old (.unOp .not 4 (.tmp 25)))⟩,Ol 27 (.pick (.tmp 22) (.const (.bool true)) (.tmp 26))])
 (.cond (.tmp 27) (.seq (.reg (some []) [Ac 2 8])
 .ret)
 .skip))
 (.seq (.draw (some [0,3,4,11,12,13]) 26 [Dr (Mv 28 3) 0 [1,2,3,4,5,6,7,8,9,10,11,12,13,14,15,16,17,18,19,20,21,22,23,24,25],Dr (Bc 29 .gtr 3 28 .i64 0) 1 [2,3,4,5,6,7,8,9,10,11,12,13,14,15,16,17,18,19,20,21,22,23,24,25],Dr (Mv 30 29) 2 [3,4,5,6,7,8,9,10,11,12,13,14,15,16,17,18,19,20,21,22,23,24,25],⟨⟨some 31,some (30,true),.op false (.old (.move (.tmp 0)))⟩,3,.none,[6,7,8,11,12,13,14,15,16,17,18,19,20,21,22,23,24,25],false,true⟩,⟨⟨some 32,some (30,true),.op false (.old (.move (.tmp 3)))⟩,4,.none,[5,6,7,8,11,12,13,14,15,16,17,18,19,20,21,22,23,24,25],false,true⟩,⟨⟨some 33,some (30,true),.op false (.old (.binOp .sub 3 (.tmp 32) (.const (.int .i64 1)) 3))⟩,5,.none,[6,7,8,11,12,13,14,15,16,17,18,19,20,21,22,23,24,25],false,true⟩,⟨⟨some 34,some (30,true),.op false (.ixS 4 (.tmp 31) (.tmp 33))⟩,6,.none,[7,8,11,12,13,14,15,16,17,18,19,20,21,22,23,24,25],false,true⟩,⟨⟨some 35,some (30,true),.op false (.fieldAddr 0 (.tmp 34))⟩,7,.none,[8,11,12,13,14,15,16,17,18,19,20,21,22,23,24,25],false,true⟩,⟨⟨some 36,some (30,true),.op false (.load 2 [.int .i64,.int .i64] (.tmp 35))⟩,8,.blk (.tmp 35),[11,12,13,14,15,16,17,18,19,20,21,22,23,24,25],false,true⟩,⟨⟨some 37,some (30,true),.op false (.fieldAddr 0 (.tmp 4))⟩,9,.none,[10,11,12,13,14,15,16,17,18,19,20,21,22,23,24,25],false,true⟩,⟨⟨some 38,some (30,true),.op false (.load 2 [.int .i64,.int .i64] (.tmp 37))⟩,10,.blk (.tmp 37),[11,12,13,14,15,16,17,18,19,20,21,22,23,24,25],false,true⟩,⟨⟨some 39,some (30,true),.call (.func 34) [.tmp 36,.tmp 38] (some (.val (.one (.int .i64))))⟩,11,.all,[12,13,14,15,16,17,18,19,20,21,22,23,24,25],false,false⟩,⟨⟨some 40,some (30,true),.op false (.old (.binOp .geq 3 (.tmp 39) (.const (.int .i64 0)) 3))⟩,12,.none,[13,14,15,16,17,18,19,20,21,22,23,24,25],false,true⟩,⟨⟨some 41,some (30,true),.op false (.old (.move (.tmp 40)))⟩,13,.none,[14,15,16,17,18,19,20,21,22,23,24,25],false,true⟩,⟨⟨some 42,some (41,false),.op false (.old (.move (.tmp 0)))⟩,14,.none,[17,18,19,22,23,24,25],false,true⟩,⟨⟨some 43,some (41,false),.op false (.old (.move (.tmp 3)))⟩,15,.none,[16,17,18,19,22,23,24,25],false,true⟩,⟨⟨some 44,some (41,false),.op false (.old (.binOp .sub 3 (.tmp 43) (.const (.int .i64 1)) 3))⟩,16,.none,[17,18,19,22,23,24,25],false,true⟩,⟨⟨some 45,some (41,false),.op false (.ixS 4 (.tmp 42) (.tmp 44))⟩,17,.none,[18,19,22,23,24,25],false,true⟩,⟨⟨some 46,some (41,false),.op false (.fieldAddr 2 (.tmp 45))⟩,18,.none,[19,22,23,24,25],false,true⟩,⟨⟨some 47,some (41,false),.op false (.load 2 [.int .i64,.int .i64] (.tmp 46))⟩,19,.blk (.tmp 46),[22,23,24,25],false,true⟩,⟨⟨some 48,some (41,false),.op false (.fieldAddr 2 (.tmp 4))⟩,20,.none,[21,22,23,24,25],false,true⟩,⟨⟨some 49,some (41,false),.op false (.load 2 [.int .i64,.int .i64] (.tmp 48))⟩,21,.blk (.tmp 48),[22,23,24,25],false,true⟩,⟨⟨some 50,some (41,false),.call (.func 34) [.tmp 47,.tmp 49] (some (.val (.one (.int .i64))))⟩,22,.all,[23,24,25],false,false⟩,⟨⟨some 51,some (41,false),.op false (.old (.binOp .geq 3 (.tmp 50) (.const (.int .i64 0)) 3))⟩,23,.none,[24,25],false,true⟩,⟨⟨some 52,some (30,true),.op false (.old (.pick (.tmp 41) (.const (.bool true)) (.tmp 51)))⟩,24,.none,[25],false,true⟩,Dr (Ol 53 (.pick (.tmp 30) (.tmp 52) (.const (.bool false)))) 25 []])
 (.cond (.tmp 53) (.seq (.reg (some []) [Ac 2 8])
 .ret)
 .skip)))))
 (.reg (some [0,11,12,13]) [Bc 54 .add 3 13 .i64 1,Mv 13 54])))⟩)],
 []⟩
theorem r14_ok : resFun (progU ()) hint live 14 Try.f14 = some r14:=by kernel_rfl
def r15 : RFun :=
⟨.seq (.reg (some [0]) [Ac 2 0])
 (.seq (.seq (.reg (some [0]) [Mv 5 0,Ro 6 (.lenS (.tmp 5)),Bc 7 .gtr 3 6 .i64 40])
 (.cond (.tmp 7) (.seq (.reg (some []) [Ac 2 4])
 .ret)
 .skip))
 (.seq (.seq (.reg (some [0]) [Ac 3 0])
 (.block 0 (.loop 4 none (some [0,3]))))
 (.seq (.seq (.reg (some [0]) [Ac 4 1])
 (.block 2 (.loop 9 (some [0,4]) (some [0,4]))))
 (.seq (.seq (.reg (some [0]) [Mv 64 0,Ro 65 (.lenS (.tmp 64)),Bc 66 .lss 3 65 .i64 2])
 (.cond (.tmp 66) (.seq (.reg (some []) [Ac 2 8])
 .ret)
 .skip))
 (.seq (.reg (some []) [Ac 2 0])
 .ret))))),
 [.tmp 2],
 [(4,⟨none,some [0,3],.seq (.seq (.reg (some [0,3]) [Mv 8 3,Mv 9 0,Ro 10 (.lenS (.tmp 9)),Bt 11 .lss 3 8 10])
 (.cond (.tmp 11) .skip
 (.exit 0 (some [0]))))
 (.seq (.block 1 (.seq (.reg (some [0,3]) [Mv 14 0,Mv 15 3,Ix 16 4 14 15,Fa 17 0 16,Ld 18 17,Ca 19 29 [.tmp 18,.const (.int .i64 100)] (some (.val (.one .bool))),Ol 20 (.unOp .not 4 (.tmp 19)),Mv 21 20,⟨some 22,some (21,false),.op false (.old (.move (.tmp 0)))⟩,⟨some 23,some (21,false),.op false (.old (.move (.tmp 3)))⟩,⟨some 24,some (21,false),.op false (.ixS 4 (.tmp 22) (.tmp 23))⟩,⟨some 25,some (21,false),.op false (.fieldAddr 2 (.tmp 24))⟩,⟨some 26,some (21,false),.op false (.load 2 [.int .i64,.int .i64] (.tmp 25))⟩,⟨some 27,some (21,false),.call (.func 29) [.tmp 26,.const (.int .i64 100)] (some (.val (.one .bool)))⟩,⟨some 28,some (21,false),.op false (.old (.unOp .not 4 (.tmp 27)))⟩,Ol 29 (.pick (.tmp 21) (.const (.bool true)) (.tmp 28))])
 (.cond (.tmp 29) (.seq (.reg (some []) [Ac 2 8])
 .ret)
 .skip)))
 (.reg (some [0,3]) [Mv 12 3,Bc 13 .add 3 12 .i64 1,As 3 13]))⟩),(9,⟨some [0,4],some [0,4],.seq (.seq (.reg (some [0,4]) [Mv 30 4,Mv 31 0,Ro 32 (.lenS (.tmp 31)),Bt 33 .lss 3 30 32])
 (.cond (.tmp 33) .skip
 (.exit 2 (some [0]))))
 (.seq (.block 3 (.seq (.draw (some [0,4]) 28 [Dr (Mv 36 0) 0 [3,4,5,11,12,13,14,15,16,17,18,19,20,21,22,23,24,25,26,27],Dr (Mv 37 4) 1 [2,3,4,5,11,12,13,14,15,16,17,18,19,20,21,22,23,24,25,26,27],Dr (Bc 38 .sub 3 37 .i64 1) 2 [3,4,5,11,12,13,14,15,16,17,18,19,20,21,22,23,24,25,26,27],Dr (Ix 39 4 36 38) 3 [4,5,11,12,13,14,15,16,17,18,19,20,21,22,23,24,25,26,27],Dr (Fa 40 0 39) 4 [5,11,12,13,14,15,16,17,18,19,20,21,22,23,24,25,26,27],Db (Ld 41 40) 5 40 [11,12,13,14,15,16,17,18,19,20,21,22,23,24,25,26,27],Dr (Mv 42 0) 6 [8,9,10,11,12,13,14,15,16,17,18,19,20,21,22,23,24,25,26,27],Dr (Mv 43 4) 7 [8,9,10,11,12,13,14,15,16,17,18,19,20,21,22,23,24,25,26,27],Dr (Ix 44 4 42 43) 8 [9,10,11,12,13,14,15,16,17,18,19,20,21,22,23,24,25,26,27],Dr (Fa 45 0 44) 9 [10,11,12,13,14,15,16,17,18,19,20,21,22,23,24,25,26,27],Db (Ld 46 45) 10 45 [11,12,13,14,15,16,17,18,19,20,21,22,23,24,25,26,27],⟨Ca 47 27 [.tmp 41,.tmp 46] (some (.val (.one .bool))),11,.all,[12,13,14,15,16,17,18,19,20,21,22,23,24,25,26,27],false,false⟩,Dr (Ol 48 (.unOp .not 4 (.tmp 47))) 12 [13,14,15,16,17,18,19,20,21,22,23,24,25,26,27],Dr (Mv 49 48) 13 [14,15,16,17,18,19,20,21,22,23,24,25,26,27],⟨⟨some 50,some (49,false),.op false (.old (.move (.tmp 0)))⟩,14,.none,[17,18,19,25,26,27],false,true⟩,⟨⟨some 51,some (49,false),.op false (.old (.move (.tmp 4)))⟩,15,.none,[16,17,18,19,25,26,27],false,true⟩,⟨⟨some 52,some (49,false),.op false (.old (.binOp .sub 3 (.tmp 51) (.const (.int .i64 1)) 3))⟩,16,.none,[17,18,19,25,26,27],false,true⟩,⟨⟨some 53,some (49,false),.op false (.ixS 4 (.tmp 50) (.tmp 52))⟩,17,.none,[18,19,25,26,27],false,true⟩,⟨⟨some 54,some (49,false),.op false (.fieldAddr 2 (.tmp 53))⟩,18,.none,[19,25,26,27],false,true⟩,⟨⟨some 55,some (49,false),.op false (.load 2 [.int .i64,.int .i64] (.tmp 54))⟩,19,.blk (.tmp 54),[25,26,27],false,true⟩,⟨⟨some 56,some (49,false),.op false (.old (.move (.tmp 0)))⟩,20,.none,[22,23,24,25,26,27],false,true⟩,⟨⟨some 57,some (49,false),.op false (.old (.move (.tmp 4)))⟩,21,.none,[22,23,24,25,26,27],false,true⟩,⟨⟨some 58,some (49,false),.op false (.ixS 4 (.tmp 56) (.tmp 57))⟩,22,.none,[23,24,25,26,27],false,true⟩,⟨⟨some 59,some (49,false),.op false (.fieldAddr 2 (.tmp 58))⟩,23,.none,[24,25,26,27],false,true⟩,⟨⟨some 60,some (49,false),.op false (.load 2 [.int .i64,.int .i64] (.tmp 59))⟩,24,.blk (.tmp 59),[25,26,27],false,true⟩,⟨⟨some 61,some (49,false),.call (.func 27) [.tmp 55,.tmp 60] (some (.val (.one .bool)))⟩,25,.all,[26,27],false,false⟩,⟨⟨some 62,some (49,false),.op false (.old (.unOp .not 4 (.tmp 61)))⟩,26,.none,[27],false,true⟩,Dr (Ol 63 (.pick (.tmp 49) (.const (.bool true)) (.tmp 62))) 27 []])
 (.cond (.tmp 63) (.seq (.reg (some []) [Ac 2 8])
 .ret)
 .skip)))
 (.reg (some [0,4]) [Mv 34 4,Bc 35 .add 3 34 .i64 1,As 4 35]))⟩)],
 []⟩
theorem r15_ok : resFun (progU ()) hint live 15 Try.f15 = some r15:=by kernel_rfl
def r16 : RFun :=
⟨.seq (.reg (some [0,1]) [Ol 4 (.assign (.const (.bool false)))])
 (.seq (.seq (.reg (some [0,1]) [Mv 6 0,Ro 7 (.lenS (.tmp 6)),Mv 8 1,Ro 9 (.lenS (.tmp 8)),Bt 10 .neq 3 7 9])
 (.cond (.tmp 10) (.seq (.reg (some []) [Ol 4 (.assign (.const (.bool false)))])
 .ret)
 .skip))
 (.seq (.seq (.reg (some [0,1]) [Ac 5 0])
 (.block 0 (.loop 4 (some [0,1,5]) (some [0,1,5]))))
 (.seq (.reg (some []) [Ol 4 (.assign (.const (.bool true)))])
 .ret))),
 [.tmp 4],
 [(4,⟨some [0,1,5],some [0,1,5],.seq (.seq (.reg (some [0,1,5]) [Mv 11 5,Mv 12 0,Ro 13 (.lenS (.tmp 12)),Bt 14 .lss 3 11 13])
 (.cond (.tmp 14) .skip
 (.exit 0 (some []))))
 (.seq (.block 1 (.seq (.draw (some [0,1,5]) 9 [Dr (Mv 17 0) 0 [2,3,8],Dr (Mv 18 5) 1 [2,3,8],Dr (Ix 19 4 17 18) 2 [3,8],Db (Ro 20 (.load 4 [.int .i64,.int .i64,.int .i64,.int .i64] (.tmp 19))) 3 19 [8],Dr (Mv 21 1) 4 [6,7,8],Dr (Mv 22 5) 5 [6,7,8],Dr (Ix 23 4 21 22) 6 [7,8],Db (Ro 24 (.load 4 [.int .i64,.int .i64,.int .i64,.int .i64] (.tmp 23))) 7 23 [8],Dr (Bt 25 .neq 51 20 24) 8 []])
 (.cond (.tmp 25) (.seq (.reg (some []) [Ol 4 (.assign (.const (.bool false)))])
 .ret)
 .skip)))
 (.reg (some [0,1,5]) [Mv 15 5,Bc 16 .add 3 15 .i64 1,As 5 16]))⟩)],
 []⟩
theorem r16_ok : resFun (progU ()) hint live 16 Try.f16 = some r16:=by kernel_rfl
end Go.Proofs.Ytnokkniofajnhaa
