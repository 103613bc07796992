import Derived.Test.YtkbgkjlgnmlghaaSeat0
import Derived.Test.YtkbgkjlgnmlghaaSymS
set_option linter.unusedSimpArgs false
set_option linter.unusedVariables false
namespace Go.Proofs.Ytkbgkjlgnmlghaa
open Go.Sim
set_option maxRecDepth 100000
def r8 : RFun :=
⟨.seq (.reg (some [0,1,2]) [Ol 6 (.assign (.const (.bool false)))])
 (.seq (.reg (some [0,1,2]) [Ca 20 18 [] (some (.val (.one .bool))),As 7 20])
 (.seq (.seq (.reg (some [0,1,2,7]) [Mv 21 2,Ca 22 33 [.tmp 21] (some (.val (.one .bool))),Mv 23 22,⟨some 24,some (23,false),.op false (.old (.move (.tmp 2)))⟩,⟨some 25,some (23,false),.call (.func 23) [.tmp 24] (some (.val (.one (.int .i64))))⟩,⟨some 26,some (23,false),.op false (.old (.binOp .neq 3 (.tmp 25) (.const (.int .i64 0)) 3))⟩,Ol 27 (.pick (.tmp 23) (.const (.bool true)) (.tmp 26)),Mv 28 27,⟨some 29,some (28,false),.op false (.old (.move (.tmp 2)))⟩,⟨some 30,some (28,false),.op false (.lenS (.tmp 29))⟩,⟨some 31,some (28,false),.op false (.old (.move (.tmp 0)))⟩,⟨some 32,some (28,false),.op false (.old (.move (.tmp 1)))⟩,⟨some 33,some (28,false),.call (.func 19) [.tmp 30,.tmp 31,.tmp 32] (some (.val (.one .bool)))⟩,⟨some 34,some (28,false),.op false (.old (.unOp .not 4 (.tmp 33)))⟩,Ol 35 (.pick (.tmp 28) (.const (.bool true)) (.tmp 34)),Mv 36 35,⟨some 37,some (36,false),.op false (.old (.move (.tmp 7)))⟩,⟨some 38,some (36,false),.op false (.old (.unOp .not 4 (.tmp 37)))⟩,Ol 39 (.pick (.tmp 36) (.const (.bool true)) (.tmp 38))])
 (.cond (.tmp 39) (.seq (.reg (some [7]) [Mv 40 7,As 6 40])
 .ret)
 .skip))
 (.seq (.reg (some [0,1,2,7]) [Mv 42 2,Ro 43 (.lenS (.tmp 42)),Mv 44 0,Mv 45 1,Ca 46 12 [.tmp 43,.tmp 44,.tmp 45] (some (.tup [.one .slice,.one (.int .i64)])),Mv 41 46,Ex 47 41 0,Ex 48 41 1,As 8 47,As 9 48])
 (.seq (.reg (some [0,1,2,7,8,9]) [Mv 50 2,Mv 51 0,Ca 52 28 [.tmp 50,.tmp 51] (some (.tup [.one .slice,.one (.int .i64)])),Mv 49 52,Ex 53 49 0,Ex 54 49 1,As 10 53,As 11 54])
 (.seq (.seq (.reg (some [0,1,2,7,8,9,10,11]) [Mv 55 9,Bc 56 .neq 30 55 .i64 0,Mv 57 56,⟨some 58,some (57,false),.op false (.old (.move (.tmp 11)))⟩,⟨some 59,some (57,false),.op false (.old (.binOp .neq 30 (.tmp 58) (.const (.int .i64 0)) 30))⟩,Ol 60 (.pick (.tmp 57) (.const (.bool true)) (.tmp 59))])
 (.cond (.tmp 60) (.seq (.reg (some [7,9,11]) [Mv 61 7,Mv 62 61,⟨some 63,some (62,true),.op false (.old (.move (.tmp 9)))⟩,⟨some 64,some (62,true),.op false (.old (.binOp .eql 30 (.tmp 63) (.const (.int .i64 0)) 30))⟩,⟨some 65,some (62,true),.op false (.old (.move (.tmp 64)))⟩,⟨some 66,some (65,false),.op false (.old (.move (.tmp 9)))⟩,⟨some 67,some (65,false),.op false (.old (.binOp .eql 30 (.tmp 66) (.const (.int .i64 16)) 30))⟩,⟨some 68,some (62,true),.op false (.old (.pick (.tmp 65) (.const (.bool true)) (.tmp 67)))⟩,Ol 69 (.pick (.tmp 62) (.tmp 68) (.const (.bool false))),Mv 70 69,⟨some 71,some (70,true),.op false (.old (.move (.tmp 11)))⟩,⟨some 72,some (70,true),.op false (.old (.binOp .eql 30 (.tmp 71) (.const (.int .i64 0)) 30))⟩,⟨some 73,some (70,true),.op false (.old (.move (.tmp 72)))⟩,⟨some 74,some (73,false),.op false (.old (.move (.tmp 11)))⟩,⟨some 75,some (73,false),.op false (.old (.binOp .eql 30 (.tmp 74) (.const (.int .i64 16)) 30))⟩,⟨some 76,some (70,true),.op false (.old (.pick (.tmp 73) (.const (.bool true)) (.tmp 75)))⟩,Ol 77 (.pick (.tmp 70) (.tmp 76) (.const (.bool false))),As 6 77])
 .ret)
 .skip))
 (.seq (.reg (some [0,1,2,7,8,10]) [Mv 79 8,Ca 80 30 [.tmp 79] (some (.tup [.one .slice,.one (.int .i64)])),Mv 78 80,Ex 81 78 0,Ex 82 78 1,As 12 81,As 13 82])
 (.seq (.reg (some [0,1,2,7,10,12,13]) [Mv 84 2,Ca 85 30 [.tmp 84] (some (.tup [.one .slice,.one (.int .i64)])),Mv 83 85,Ex 86 83 0,Ex 87 83 1,As 14 86,As 15 87])
 (.seq (.seq (.reg (some [0,1,2,7,10,12,13,14,15]) [Mv 88 13,Bc 89 .neq 30 88 .i64 0,Mv 90 89,⟨some 91,some (90,false),.op false (.old (.move (.tmp 15)))⟩,⟨some 92,some (90,false),.op false (.old (.binOp .neq 30 (.tmp 91) (.const (.int .i64 0)) 30))⟩,Ol 93 (.pick (.tmp 90) (.const (.bool true)) (.tmp 92)),Mv 94 93,⟨some 95,some (94,false),.op false (.old (.move (.tmp 10)))⟩,⟨some 96,some (94,false),.op false (.lenS (.tmp 95))⟩,⟨some 97,some (94,false),.op false (.old (.move (.tmp 0)))⟩,⟨some 98,some (94,false),.op false (.lenS (.tmp 97))⟩,⟨some 99,some (94,false),.op false (.old (.binOp .neq 3 (.tmp 96) (.tmp 98) 3))⟩,Ol 100 (.pick (.tmp 94) (.const (.bool true)) (.tmp 99)),Mv 101 100,⟨some 102,some (101,false),.op false (.old (.move (.tmp 12)))⟩,⟨some 103,some (101,false),.op false (.lenS (.tmp 102))⟩,⟨some 104,some (101,false),.op false (.old (.move (.tmp 14)))⟩,⟨some 105,some (101,false),.op false (.lenS (.tmp 104))⟩,⟨some 106,some (101,false),.op false (.old (.binOp .neq 3 (.tmp 103) (.tmp 105) 3))⟩,Ol 107 (.pick (.tmp 101) (.const (.bool true)) (.tmp 106)),Mv 108 107,⟨some 109,some (108,false),.op false (.old (.move (.tmp 12)))⟩,⟨some 110,some (108,false),.op false (.lenS (.tmp 109))⟩,⟨some 111,some (108,false),.op false (.old (.move (.tmp 2)))⟩,⟨some 112,some (108,false),.op false (.lenS (.tmp 111))⟩,⟨some 113,some (108,false),.op false (.old (.move (.tmp 2)))⟩,⟨some 114,some (108,false),.op false (.lenS (.tmp 113))⟩,⟨some 115,some (108,false),.op false (.old (.binOp .mul 3 (.tmp 112) (.tmp 114) 3))⟩,⟨some 116,some (108,false),.op false (.old (.binOp .neq 3 (.tmp 110) (.tmp 115) 3))⟩,Ol 117 (.pick (.tmp 108) (.const (.bool true)) (.tmp 116))])
 (.cond (.tmp 117) (.seq (.reg (some []) [Ol 6 (.assign (.const (.bool false)))])
 .ret)
 .skip))
 (.seq (.reg (some [1,7,10,12,14]) [Mv 119 12,Mv 120 14,Ca 121 31 [.tmp 119,.tmp 120] (some (.tup [.agg [.int .i64,.int .i64,.int .i64],.one (.int .i64)])),Mv 118 121,Ex 122 118 0,Ex 123 118 1,⟨some 16,none,.op true (.new 3 [.int .i64 0,.int .i64 0,.int .i64 0])⟩,⟨none,none,.op false (.store 3 (.tmp 16) (.tmp 122))⟩,As 17 123])
 (.seq (.reg (some [1,7,10,16,17]) [Mv 125 1,Mv 126 10,Ca 127 31 [.tmp 125,.tmp 126] (some (.tup [.agg [.int .i64,.int .i64,.int .i64],.one (.int .i64)])),Mv 124 127,Ex 128 124 0,Ex 129 124 1,⟨some 18,none,.op true (.new 3 [.int .i64 0,.int .i64 0,.int .i64 0])⟩,⟨none,none,.op false (.store 3 (.tmp 18) (.tmp 128))⟩,As 19 129])
 (.seq (.reg (some [7,16,17,18,19]) [Mv 130 7,Mv 131 130,⟨some 132,some (131,true),.op false (.old (.move (.tmp 17)))⟩,⟨some 133,some (131,true),.op false (.old (.binOp .neq 30 (.tmp 132) (.const (.int .i64 0)) 30))⟩,⟨some 134,some (131,true),.op false (.old (.move (.tmp 133)))⟩,⟨some 135,some (134,false),.op false (.old (.move (.tmp 19)))⟩,⟨some 136,some (134,false),.op false (.old (.binOp .neq 30 (.tmp 135) (.const (.int .i64 0)) 30))⟩,⟨some 137,some (131,true),.op false (.old (.pick (.tmp 134) (.const (.bool true)) (.tmp 136)))⟩,⟨some 138,some (131,true),.op false (.old (.move (.tmp 137)))⟩,⟨some 139,some (138,false),.op false (.load 3 [.int .i64,.int .i64,.int .i64] (.tmp 16))⟩,⟨some 140,some (138,false),.op false (.load 3 [.int .i64,.int .i64,.int .i64] (.tmp 18))⟩,⟨some 141,some (138,false),.op false (.old (.binOp .eql 46 (.tmp 139) (.tmp 140) 46))⟩,⟨some 142,some (131,true),.op false (.old (.pick (.tmp 138) (.const (.bool true)) (.tmp 141)))⟩,Ol 143 (.pick (.tmp 131) (.tmp 142) (.const (.bool false))),Mv 144 143,⟨some 145,some (144,true),.op false (.old (.move (.tmp 17)))⟩,⟨some 146,some (144,true),.op false (.old (.binOp .eql 30 (.tmp 145) (.const (.int .i64 0)) 30))⟩,⟨some 147,some (144,true),.op false (.old (.move (.tmp 146)))⟩,⟨some 148,some (147,false),.op false (.old (.move (.tmp 17)))⟩,⟨some 149,some (147,false),.op false (.old (.binOp .eql 30 (.tmp 148) (.const (.int .i64 16)) 30))⟩,⟨some 150,some (144,true),.op false (.old (.pick (.tmp 147) (.const (.bool true)) (.tmp 149)))⟩,Ol 151 (.pick (.tmp 144) (.tmp 150) (.const (.bool false))),Mv 152 151,⟨some 153,some (152,true),.op false (.old (.move (.tmp 19)))⟩,⟨some 154,some (152,true),.op false (.old (.binOp .eql 30 (.tmp 153) (.const (.int .i64 0)) 30))⟩,⟨some 155,some (152,true),.op false (.old (.move (.tmp 154)))⟩,⟨some 156,some (155,false),.op false (.old (.move (.tmp 19)))⟩,⟨some 157,some (155,false),.op false (.old (.binOp .eql 30 (.tmp 156) (.const (.int .i64 16)) 30))⟩,⟨some 158,some (152,true),.op false (.old (.pick (.tmp 155) (.const (.bool true)) (.tmp 157)))⟩,Ol 159 (.pick (.tmp 152) (.tmp 158) (.const (.bool false))),As 6 159])
 .ret))))))))))),
 [.tmp 6],
 [],
 []⟩
theorem r8_ok : resFun (progU ()) hint live 8 Try.f8 = some r8:=by kernel_rfl
def r9 : RFun :=
⟨.seq (.reg (some [0,1]) [Ol 4 (.assign (.const (.bool false)))])
 (.seq (.reg (some [0,1]) [Mv 5 0,Ro 6 (.lenS (.tmp 5)),Bc 7 .gtr 3 6 .i64 16,Mv 8 7,⟨some 9,some (8,true),.op false (.old (.move (.tmp 0)))⟩,⟨some 10,some (8,true),.op false (.lenS (.tmp 9))⟩,⟨some 11,some (8,true),.op false (.old (.binOp .leq 3 (.tmp 10) (.const (.int .i64 32)) 3))⟩,Ol 12 (.pick (.tmp 8) (.tmp 11) (.const (.bool false))),Mv 13 12,⟨some 14,some (13,false),.op false (.old (.move (.tmp 0)))⟩,⟨some 15,some (13,false),.op false (.lenS (.tmp 14))⟩,⟨some 16,some (13,false),.op false (.old (.binOp .gtr 3 (.tmp 15) (.const (.int .i64 40)) 3))⟩,Ol 17 (.pick (.tmp 13) (.const (.bool true)) (.tmp 16)),Mv 18 17,⟨some 19,some (18,false),.op false (.old (.move (.tmp 1)))⟩,⟨some 20,some (18,false),.op false (.lenS (.tmp 19))⟩,⟨some 21,some (18,false),.op false (.old (.binOp .gtr 3 (.tmp 20) (.const (.int .i64 80)) 3))⟩,Ol 22 (.pick (.tmp 18) (.const (.bool true)) (.tmp 21)),As 4 22])
 .ret),
 [.tmp 4],
 [],
 []⟩
theorem r9_ok : resFun (progU ()) hint live 9 Try.f9 = some r9:=by kernel_rfl
def r10 : RFun :=
⟨.seq (.reg (some [0,1]) [⟨some 3,none,.op true (.box 4 (.tmp 1))⟩,Ol 4 (.assign (.const (.slice none 0 0))),Ac 5 0])
 (.seq (.seq (.reg (some [0,3]) [Mv 17 0,Ro 18 (.load 4 [.int .i64,.int .i64,.int .i64,.int .i64] (.tmp 3)),Ro 19 (.buildSlice 4 1 [.int .i64 0,.int .i64 0,.int .i64 0,.int .i64 0] [(0,4,(.tmp 18))]),Ca 20 14 [.tmp 17,.tmp 19] (some (.val (.one (.int .i64)))),As 6 20])
 (.seq (.reg (some [0,3,6]) [Mv 21 6,Bc 22 .neq 30 21 .i64 0])
 (.cond (.tmp 22) (.seq (.reg (some [6]) [Mv 23 6,Ol 4 (.assign (.const (.slice none 0 0))),As 5 23])
 .ret)
 .skip)))
 (.seq (.reg (some [0,3]) [Fa 25 0 3,Ld 26 25,Ca 27 34 [.tmp 26] (some (.tup [.one (.int .i64),.agg [.int .i64,.int .i64,.int .i64,.int .i64],.one (.int .i64)])),Mv 24 27,Ex 28 24 0,Ex 29 24 1,Ex 30 24 2,Ro 8 (.new 4 [.int .i64 0,.int .i64 0,.int .i64 0,.int .i64 0]),As 7 28,⟨none,none,.op false (.store 4 (.tmp 8) (.tmp 29))⟩,As 9 30])
 (.seq (.seq (.reg (some [0,3,7,8,9]) [Mv 31 9,Bc 32 .neq 30 31 .i64 0])
 (.cond (.tmp 32) (.seq (.reg (some [9]) [Mv 33 9,Ol 4 (.assign (.const (.slice none 0 0))),As 5 33])
 .ret)
 .skip))
 (.seq (.reg (some [0,3,7,8]) [Fa 35 2 3,Ld 36 35,Ca 37 34 [.tmp 36] (some (.tup [.one (.int .i64),.agg [.int .i64,.int .i64,.int .i64,.int .i64],.one (.int .i64)])),Mv 34 37,Ex 38 34 0,Ex 39 34 1,Ex 40 34 2,Ro 11 (.new 4 [.int .i64 0,.int .i64 0,.int .i64 0,.int .i64 0]),As 10 38,⟨none,none,.op false (.store 4 (.tmp 11) (.tmp 39))⟩,As 9 40])
 (.seq (.seq (.reg (some [0,7,8,9,10,11]) [Mv 41 9,Bc 42 .neq 30 41 .i64 0])
 (.cond (.tmp 42) (.seq (.reg (some [9]) [Mv 43 9,Ol 4 (.assign (.const (.slice none 0 0))),As 5 43])
 .ret)
 .skip))
 (.seq (.reg (some [0,7,8,10,11]) [Ol 12 (.assign (.const (.slice none 0 0)))])
 (.seq (.seq (.reg (some [0,7,8,10,11,12]) [Ol 44 (.move (.const (.int .i64 0)))])
 (.block 0 (.loop 12 (some [0,7,8,10,11,12,44]) (some [0,7,8,10,11,12,44]))))
 (.seq (.reg (some [12]) [Mv 83 12,Ca 84 35 [.tmp 83,.func 36] (some (.tup []))])
 (.seq (.reg (some [12]) [Mv 85 12,As 4 85,Ac 5 0])
 .ret))))))))),
 [.tmp 4,.tmp 5],
 [(12,⟨some [0,7,8,10,11,12,44],some [0,7,8,10,11,12,44],.seq (.reg (some [0,7,8,10,11,12,44]) [Bc 45 .lss 3 44 .i64 2])
 (.seq (.cond (.tmp 45) .skip
 (.exit 0 (some [12])))
 (.seq (.block 1 (.seq (.reg (some [0,7,8,10,11,12,44]) [Mv 46 44,As 13 46])
 (.seq (.reg (some [0,7,8,10,11,12,13,44]) [Ol 47 (.move (.const (.int .i64 0)))])
 (.block 2 (.loop 15 (some [0,7,8,10,11,12,13,44,47]) (some [0,7,8,10,11,12,13,44,47]))))))
 (.reg (some [0,7,8,10,11,12,44]) [Bc 82 .add 3 44 .i64 1,Mv 44 82])))⟩),(15,⟨some [0,7,8,10,11,12,13,44,47],some [0,7,8,10,11,12,13,44,47],.seq (.reg (some [0,7,8,10,11,12,13,44,47]) [Bc 48 .lss 3 47 .i64 2])
 (.seq (.cond (.tmp 48) .skip
 (.exit 2 (some [0,7,8,10,11,12,44])))
 (.seq (.block 3 (.seq (.reg (some [0,7,8,10,11,12,13,44,47]) [Mv 49 47,As 14 49])
 (.seq (.draw (some [0,7,8,10,11,12,13,14,44,47]) 13 [Dr (Mv 51 14) 0 [1,2,6,7,8,9,11,12],Dr (Ro 52 (.ixA 2 2 (.tmp 8) (.tmp 51))) 1 [2,6,7,8,9,11,12],Db (Ld 53 52) 2 52 [6,7,8,9,11,12],Dr (Mv 54 13) 3 [4,5,6,7,8,9,11,12],Dr (Ro 55 (.ixA 2 2 (.tmp 11) (.tmp 54))) 4 [5,6,7,8,9,11,12],Db (Ld 56 55) 5 55 [6,7,8,9,11,12],⟨⟨some 15,none,.op true (.new 2 [.int .i64 0,.int .i64 0])⟩,10,.new true,[11,12],false,true⟩,⟨Ca 57 25 [.tmp 53,.tmp 56] (some (.tup [.agg [.int .i64,.int .i64],.one (.int .i64)])),6,.all,[7,8,9,11,12],false,false⟩,Dr (Mv 50 57) 7 [8,9,11,12],Dr (Ex 58 50 0) 8 [11,12],Dr (Ex 59 50 1) 9 [12],⟨⟨none,none,.op false (.store 2 (.tmp 15) (.tmp 58))⟩,11,.blk (.tmp 15),[12],true,true⟩,Dr (As 16 59) 12 []])
 (.seq (.seq (.reg (some [0,7,8,10,11,12,13,14,15,16,44,47]) [Mv 60 16,Bc 61 .neq 30 60 .i64 0])
 (.cond (.tmp 61) (.seq (.reg (some [16]) [Mv 62 16,Ol 4 (.assign (.const (.slice none 0 0))),As 5 62])
 .ret)
 .skip))
 (.seq (.reg (some [0,7,8,10,11,12,13,14,15,44,47]) [Fa 63 0 15,L1 64 63,Bc 65 .neq 2 64 .i64 0])
 (.cond (.tmp 65) (.draw (some [0,7,8,10,11,12,13,14,15,44,47]) 16 [Dr (Mv 66 12) 0 [14,15],Dr (Mv 67 7) 1 [3,5,12,13,14,15],Dr (Mv 68 14) 2 [3,5,12,13,14,15],Dr (Bt 69 .add 3 67 68) 3 [5,12,13,14,15],Dr (Mv 70 0) 4 [5,12,13,14,15],Dr (Bt 71 .rem 3 69 70) 5 [12,13,14,15],Dr (Mv 72 10) 6 [8,10,12,13,14,15],Dr (Mv 73 13) 7 [8,10,12,13,14,15],Dr (Bt 74 .add 3 72 73) 8 [10,12,13,14,15],Dr (Mv 75 0) 9 [10,12,13,14,15],Dr (Bt 76 .rem 3 74 75) 10 [12,13,14,15],Db (Ld 77 15) 11 15 [12,13,14,15],Dr (Ro 78 (.build [.int .i64 0,.int .i64 0,.int .i64 0,.int .i64 0] [(0,1,(.tmp 71)),(1,1,(.tmp 76)),(2,2,(.tmp 77))])) 12 [13,14,15],⟨Ro 79 (.buildSlice 4 1 [.int .i64 0,.int .i64 0,.int .i64 0,.int .i64 0] [(0,4,(.tmp 78))]),13,.new false,[14,15],false,true⟩,⟨⟨some 80,none,.op false (.old (.call ⟨.builtin .append,#[.tmp 66,.tmp 79],#[29,29]⟩))⟩,14,.all,[15],false,false⟩,Dr (As 12 80) 15 []])
 .skip))))))
 (.reg (some [0,7,8,10,11,12,13,44,47]) [Bc 81 .add 3 47 .i64 1,Mv 47 81])))⟩)],
 []⟩
theorem r10_ok : resFun (progU ()) hint live 10 Try.f10 = some r10:=by kernel_rfl
end Go.Proofs.Ytkbgkjlgnmlghaa
